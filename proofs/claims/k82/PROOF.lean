import PyProof.Rows.All
import Wide.All
import OpenK.AllK
import Wide.FinOn
import HandS.ForMost
import HandS.ForExc
import HandS.Wide
import HandS.Walk
import HandS.Flow
import HandS.IsInst
import HandS.Defaults
import HandS.WideBits
import HandS.Head0
import HandS.Head1
import HandS.Head2
import HandS.HeadEnd
import HandS.HeadHook1
import HandS.HeadHook2
import HandS.Zip
import HandS.HeadHook4
import HandS.SortInts
import HandS.More
import HandS.Deep
import HandS.SetKeys
import HandS.ExcOwn
import HandS.ExcIs
import HandS.TryOnly
import HandS.TryMany
import HandS.TryElse
import HandS.WordsExc
import KE.DatumOrd
import HandS.SortKw
import HandS.Iter
import HandS.Conv
import PyProof.ListRange
import PySem.Challenge.RW_volumemend_k82_whole_mended_again
set_option Elab.async false
set_option linter.all false
set_option maxRecDepth 100000
set_option maxHeartbeats 4000000
set_option synthInstance.maxHeartbeats 2000000
set_option synthInstance.maxSize 100000
section
namespace VM
open PySem PySem.Spec L2
open PyProof.Rows hiding St

/-! ### the ledger: the heap as a list of chunks of cells -/
abbrev Cell := Addr × HO
abbrev Chunk := List Cell
abbrev Lg := List Chunk
def keys (L : Lg) : List Addr := L.flatten.map Prod.fst
structure Led (H : Hp) (L : Lg) : Prop where
  get : ∀ c ∈ L, ∀ x ∈ c, H x.1 = some x.2
  nd : (keys L).Nodup
def Lic (L L' : Lg) : Prop := ∀ H, Led H L → Led H L'
theorem Lic.refl {L : Lg} : Lic L L := fun _ h => h
theorem Lic.trans {L L' L'' : Lg} (a : Lic L L') (b : Lic L' L'') : Lic L L'' := fun H h => b H (a H h)
theorem mem_keys {L : Lg} {p : Addr} : p ∈ keys L ↔ ∃ c ∈ L, ∃ x ∈ c, x.1 = p := by
  unfold keys
  rw [List.mem_map]
  constructor
  · rintro ⟨x, hx, rfl⟩
    obtain ⟨c, hc, hxc⟩ := List.mem_flatten.mp hx
    exact ⟨c, hc, x, hxc, rfl⟩
  · rintro ⟨c, hc, x, hx, rfl⟩
    exact ⟨x, List.mem_flatten.mpr ⟨c, hc, hx⟩, rfl⟩
theorem Led.some_of {H : Hp} {L : Lg} {p : Addr} (h : Led H L) (hp : p ∈ keys L) : ∃ o, H p = some o := by
  obtain ⟨c, hc, x, hx, rfl⟩ := mem_keys.mp hp
  exact ⟨_, h.get c hc x hx⟩
theorem Led.fresh {H : Hp} {L : Lg} {p : Addr} (h : Led H L) (hp : H p = none) : p ∉ keys L := fun hm => by
  obtain ⟨o, e⟩ := h.some_of hm
  rw [hp] at e
  cases e
theorem keys_cons (c : Chunk) (L : Lg) : keys (c :: L) = c.map Prod.fst ++ keys L := by
  unfold keys
  rw [List.flatten_cons, List.map_append]
theorem keys_append (L L' : Lg) : keys (L ++ L') = keys L ++ keys L' := by
  unfold keys
  rw [List.flatten_append, List.map_append]
theorem Led.nil {H : Hp} : Led H [] := ⟨(fun _ h => nomatch h), List.nodup_nil⟩
theorem Led.new {H : Hp} {L : Lg} {p : Addr} {o : HO} (h : Led H L) (hp : H p = none) : Led (upd H p o) ([(p, o)] :: L) := by
  refine ⟨fun c hc x hx => ?_, ?_⟩
  · rcases List.mem_cons.mp hc with rfl | hc
    · obtain rfl := List.mem_singleton.mp hx
      exact upd_same
    · have e := h.get c hc x hx
      rw [upd_ne (ne_of_none e hp)]
      exact e
  · rw [keys_cons]
    exact List.nodup_cons.mpr ⟨h.fresh hp, h.nd⟩
theorem Led.none_new {H : Hp} {L : Lg} {p : Addr} {o : HO} (h : Led H L) (hp : p ∉ keys L) : Led (upd H p o) ([(p, o)] :: L) := by
  refine ⟨fun c hc x hx => ?_, ?_⟩
  · rcases List.mem_cons.mp hc with rfl | hc
    · obtain rfl := List.mem_singleton.mp hx
      exact upd_same
    · have e := h.get c hc x hx
      have ne : x.1 ≠ p := fun q => hp (q ▸ mem_keys.mpr ⟨c, hc, x, hx, rfl⟩)
      rw [upd_ne ne]
      exact e
  · rw [keys_cons]
    exact List.nodup_cons.mpr ⟨hp, h.nd⟩
/-- a ledger that holds no more -/
theorem Led.sub {H : Hp} {L L' : Lg} (h : Led H L) (hm : ∀ c ∈ L', ∀ x ∈ c, ∃ d ∈ L, x ∈ d) (nd : (keys L').Nodup) : Led H L' :=
  ⟨fun c hc x hx => let ⟨d, hd, hx'⟩ := hm c hc x hx; h.get d hd x hx', nd⟩
theorem flat_sub : ∀ {L L' : Lg}, L'.Sublist L → (L'.flatten).Sublist L.flatten := by
  intro L L' s
  induction s with
  | slnil => exact .refl _
  | cons a _ ih => rw [List.flatten_cons]; exact ih.trans (List.sublist_append_right _ _)
  | cons_cons a _ ih => rw [List.flatten_cons, List.flatten_cons]; exact (List.Sublist.refl a).append ih
theorem Lic.sublist {L L' : Lg} (s : L'.Sublist L) : Lic L L' := fun H h =>
  h.sub (fun c hc x hx => ⟨c, s.subset hc, hx⟩) (List.Sublist.nodup (by unfold keys; exact (flat_sub s).map Prod.fst) h.nd)
theorem Lic.perm {L L' : Lg} (s : L'.Perm L) : Lic L L' := fun H h =>
  h.sub (fun c hc x hx => ⟨c, s.mem_iff.mp hc, hx⟩) (((List.Perm.flatten s).map Prod.fst).nodup_iff.mpr h.nd)
theorem Lic.flat {L L' : Lg} (s : L'.flatten = L.flatten) : Lic L L' := fun H h => by
  refine h.sub (fun c hc x hx => ?_) (by unfold keys; rw [s]; exact h.nd)
  have hm : x ∈ L.flatten := s ▸ List.mem_flatten.mpr ⟨c, hc, hx⟩
  obtain ⟨d, hd, hx'⟩ := List.mem_flatten.mp hm
  exact ⟨d, hd, hx'⟩
theorem Lic.permFlat {L L' : Lg} (s : L'.flatten.Perm L.flatten) : Lic L L' := fun H h => by
  refine h.sub (fun c hc x hx => ?_) ((s.map Prod.fst).nodup_iff.mpr h.nd)
  have hm : x ∈ L.flatten := s.mem_iff.mp (List.mem_flatten.mpr ⟨c, hc, hx⟩)
  obtain ⟨d, hd, hx'⟩ := List.mem_flatten.mp hm
  exact ⟨d, hd, hx'⟩
theorem Lic.tail {c : Chunk} {L : Lg} : Lic (c :: L) L := Lic.sublist (List.sublist_cons_self c L)
theorem Lic.cons {c : Chunk} {L L' : Lg} (s : L'.Sublist L) : Lic (c :: L) (c :: L') := Lic.sublist (s.cons_cons c)
theorem Lic.swap {c d : Chunk} {L : Lg} : Lic (c :: d :: L) (d :: c :: L) := Lic.perm (List.Perm.swap c d L)
/-- the chunk at place i comes to the front -/
theorem Lic.pull {L : Lg} (i : Nat) {c : Chunk} (h : L[i]? = some c) : Lic L (c :: L.eraseIdx i) := by
  refine Lic.perm ?_
  obtain ⟨hi, e⟩ := List.getElem?_eq_some_iff.mp h
  have e2 : L = L.take i ++ c :: L.drop (i + 1) := by
    rw [← e]
    simp
  have e3 : L.eraseIdx i = L.take i ++ L.drop (i + 1) := List.eraseIdx_eq_take_drop_succ L i
  rw [e3]
  conv => rhs; rw [e2]
  exact List.perm_middle.symm
/-- a cell is written: its chunk stands at place i -/
theorem Led.put {H : Hp} {L : Lg} {i : Nat} {A B : Chunk} {p : Addr} {o o' : HO} (h : Led H L) (hi : L[i]? = some (A ++ (p, o) :: B)) : Led (upd H p o') (L.set i (A ++ (p, o') :: B)) := by
  have hlt : i < L.length := (List.getElem?_eq_some_iff.mp hi).1
  have hc : (A ++ (p, o) :: B) ∈ L := List.mem_of_getElem? hi
  have hk : keys (L.set i (A ++ (p, o') :: B)) = keys L := by
    have e1 : L = L.take i ++ (A ++ (p, o) :: B) :: L.drop (i + 1) := by
      have := (List.getElem?_eq_some_iff.mp hi).2
      rw [← this]
      simp
    have e2 : L.set i (A ++ (p, o') :: B) = L.take i ++ (A ++ (p, o') :: B) :: L.drop (i + 1) := by
      rw [List.set_eq_take_append_cons_drop, if_pos hlt]
    rw [e2]
    conv => rhs; rw [e1]
    simp [keys_append, keys_cons]
  have hnd := h.nd
  refine ⟨fun c hcm x hx => ?_, by rw [hk]; exact hnd⟩
  -- the only place of p
  have uniq : ∀ j d, L[j]? = some d → p ∈ d.map Prod.fst → j = i := by
    intro j d hj hpd
    have nd2 : (L.map fun c => c.map Prod.fst).flatten.Nodup := by
      have e : keys L = (L.map fun c => c.map Prod.fst).flatten := by
        unfold keys
        rw [List.map_flatten]
      rw [← e]
      exact hnd
    have pw := (List.pairwise_flatten.mp nd2).2
    rw [List.pairwise_map, List.pairwise_iff_getElem] at pw
    obtain ⟨jl, je⟩ := List.getElem?_eq_some_iff.mp hj
    obtain ⟨il, ie⟩ := List.getElem?_eq_some_iff.mp hi
    have hpi : p ∈ (L[i].map Prod.fst) := by rw [ie]; simp
    have hpj : p ∈ (L[j].map Prod.fst) := by rw [je]; exact hpd
    rcases Nat.lt_trichotomy j i with q | q | q
    · exact absurd rfl ((pw j i jl il q) p hpj p hpi)
    · exact q
    · exact absurd rfl ((pw i j il jl q) p hpi p hpj)
  have inner : ((A ++ (p, o) :: B).map Prod.fst).Nodup := by
    have sl : List.Sublist (A ++ (p, o) :: B) L.flatten := List.sublist_flatten_of_mem hc
    exact (sl.map Prod.fst).nodup hnd
  obtain ⟨j, hj⟩ := List.getElem?_of_mem hcm
  rw [List.getElem?_set] at hj
  split at hj
  · rename_i e
    have hj : A ++ (p, o') :: B = c := by first | exact Option.some.inj hj | (split at hj <;> first | exact Option.some.inj hj | cases hj)
    subst hj
    rcases List.mem_append.mp hx with hxA | hxB
    · have ne : x.1 ≠ p := by
        rintro rfl
        rw [List.map_append, List.map_cons] at inner
        exact (List.nodup_append.mp inner).2.2 _ (List.mem_map_of_mem hxA) _ List.mem_cons_self rfl
      rw [upd_ne ne]
      exact h.get _ hc x (List.mem_append_left _ hxA)
    · rcases List.mem_cons.mp hxB with e2 | hxB2
      · subst e2
        exact upd_same
      · have ne : x.1 ≠ p := by
          intro e2
          rw [List.map_append, List.map_cons] at inner
          have hm : x.1 ∈ B.map Prod.fst := List.mem_map_of_mem hxB2
          rw [e2] at hm
          exact (List.nodup_cons.mp (List.nodup_append.mp inner).2.1).1 hm
        rw [upd_ne ne]
        exact h.get _ hc x (List.mem_append_right _ (List.mem_cons_of_mem _ hxB2))
  · rename_i ne'
    have ne : x.1 ≠ p := by
      rintro rfl
      exact ne' (uniq j c hj (List.mem_map_of_mem hx)).symm
    rw [upd_ne ne]
    exact h.get c (List.mem_of_getElem? hj) x hx
theorem Led.put1 {H : Hp} {L : Lg} {i : Nat} {p : Addr} {o o' : HO} (h : Led H L) (hi : L[i]? = some [(p, o)]) : Led (upd H p o') (L.set i [(p, o')]) := Led.put (A := []) (B := []) h hi
theorem Led.one {H : Hp} {L : Lg} {p : Addr} {o : HO} (h : Led H L) (hm : [(p, o)] ∈ L) : H p = some o := h.get _ hm _ List.mem_cons_self
theorem Led.cell {H : Hp} {L : Lg} {c : Chunk} {p : Addr} {o : HO} (h : Led H L) (hm : c ∈ L) (hx : (p, o) ∈ c) : H p = some o := h.get _ hm _ hx
end VM

end

section
namespace VM
open PySem PySem.Spec L2
open PyProof.Rows hiding St

/-! ### readings over ledgers -/
abbrev LVK := V → Lg → Prop
abbrev LTE := St → Lg → LVK → Prop
abbrev LTT := St → Lg → (Bool → Lg → Prop) → Prop
abbrev LTA := St → Lg → (List V → Lg → Prop) → Prop
abbrev LR2 := V → V → Lg → LVK → Prop
abbrev LR1 := V → Lg → LVK → Prop
abbrev LRC := List V → Lg → LVK → Prop
/-- a heap-wish that some ledger-wish gives -/
def Up {α : Type} (t : Lg → (α → Lg → Prop) → Prop) (H : Hp) (Q : α → Hp → Prop) : Prop := ∃ L QL, Led H L ∧ t L QL ∧ ∀ v L' H', QL v L' → Led H' L' → Q v H'
theorem Up.mk {α : Type} {t : Lg → (α → Lg → Prop) → Prop} {H : Hp} {Q : α → Hp → Prop} {L : Lg} {QL : α → Lg → Prop} (h : Led H L) (ht : t L QL) (k : ∀ v L' H', QL v L' → Led H' L' → Q v H') : Up t H Q := ⟨L, QL, h, ht, k⟩
/-- down: the heap's reading at every heap of the ledger -/
def Dn {α : Type} (r : Hp → (α → Hp → Prop) → Prop) (L : Lg) (Q : α → Lg → Prop) : Prop := ∀ H, Led H L → r H fun v H' => ∃ L', Led H' L' ∧ Q v L'
def LE (X : Cx) (e : Expr) (t : LTE) : Prop := PE X e fun σ H Q => Up (t σ) H Q
def LT (X : Cx) (e : Expr) (t : LTT) : Prop := PT X e fun σ H Q => Up (t σ) H Q
def LW (X : Cx) (e : Expr) (t : LTT) : Prop := PW X e fun σ H Q => Up (t σ) H Q
def LA (X : Cx) (es : List Expr) (t : LTA) : Prop := PA X es fun σ H Q => Up (t σ) H Q
def OpL (X : Cx) (f : Value → Value → Sem Value) (r : LR2) : Prop := OpR X f fun x y H Q => Up (r x y) H Q
def UnL (X : Cx) (f : Value → Sem Value) (r : LR1) : Prop := UnR X f fun x H Q => Up (r x) H Q
def CallL (X : Cx) (f : Value) (r : LRC) : Prop := CallR X f fun xs H Q => Up (r xs) H Q
def IxL (X : Cx) (r : LR2) : Prop := IxR X fun x y H Q => Up (r x y) H Q
def MtL (X : Cx) (id : String) (r : V → LRC) : Prop := MtR X id fun x xs H Q => Up (r x xs) H Q
def SlL (X : Cx) (r : V → Option Int → Option Int → Lg → LVK → Prop) : Prop := SlR X fun x lo hi H Q => Up (r x lo hi) H Q
def TruL (X : Cx) (r : V → Lg → (Bool → Lg → Prop) → Prop) : Prop := TruR X fun x H Q => Up (r x) H Q

theorem EP.mono {X : Cx} {pins : List (Addr × Obj)} {σ : St} {Q Q' : VK} {u : Value} {s' : Shared} (h : ∀ v H, Q v H → Q' v H) (e : EP X pins σ Q u s') : EP X pins σ Q' u s' := by
  obtain ⟨v, H', I, r, q⟩ := e
  exact ⟨v, H', I, r, h _ _ q⟩
theorem TP.mono {X : Cx} {pins : List (Addr × Obj)} {σ : St} {Q Q' : Bool → Hp → Prop} {u : Bool} {s' : Shared} (h : ∀ v H, Q v H → Q' v H) (e : TP X pins σ Q u s') : TP X pins σ Q' u s' := by
  obtain ⟨H', I, q⟩ := e
  exact ⟨H', I, h _ _ q⟩
theorem AP.mono {X : Cx} {pins : List (Addr × Obj)} {σ : St} {Q Q' : List V → Hp → Prop} {u : List Value} {s' : Shared} (h : ∀ v H, Q v H → Q' v H) (e : AP X pins σ Q u s') : AP X pins σ Q' u s' := by
  obtain ⟨v, H', I, r, q⟩ := e
  exact ⟨v, H', I, r, h _ _ q⟩
section
variable {X : Cx}
theorem PE.imp {e : Expr} {t t' : TE} (p : PE X e t) (h : ∀ σ H Q, t' σ H Q → t σ H Q) : PE X e t' := ⟨fun pins s σ H Q I q => p.run pins s σ H Q I (h _ _ _ q)⟩
theorem PT.imp {e : Expr} {t t' : TT} (p : PT X e t) (h : ∀ σ H Q, t' σ H Q → t σ H Q) : PT X e t' := ⟨fun pins s σ H Q I q => p.run pins s σ H Q I (h _ _ _ q)⟩
theorem PW.imp {e : Expr} {t t' : TT} (p : PW X e t) (h : ∀ σ H Q, t' σ H Q → t σ H Q) : PW X e t' := ⟨fun wh pins s σ H Q I q => p.run wh pins s σ H Q I (h _ _ _ q)⟩
theorem PA.imp {e : List Expr} {t t' : TA} (p : PA X e t) (h : ∀ σ H Q, t' σ H Q → t σ H Q) : PA X e t' := ⟨fun pos pins s σ H Q I q => p.run pos pins s σ H Q I (h _ _ _ q)⟩
/-- every rule over the heap is one over ledgers -/
theorem OpL.of {f : Value → Value → Sem Value} {r : R2} (h : OpR X f r) : OpL X f (fun x y L Q => Dn (r x y) L Q) := by
  intro pins s σ H x y v u Q I rx ry q
  obtain ⟨L, QL, hL, hd, k⟩ := q
  exact wpAny_mono (h pins s σ H x y v u _ I rx ry (hd H hL)) (fun a s' e => EP.mono (fun v H' ⟨L', h1, h2⟩ => k v L' H' h2 h1) e) fun _ _ z => z
theorem UnL.of {f : Value → Sem Value} {r : V → Hp → VK → Prop} (h : UnR X f r) : UnL X f (fun x L Q => Dn (r x) L Q) := by
  intro pins s σ H x v Q I rx q
  obtain ⟨L, QL, hL, hd, k⟩ := q
  exact wpAny_mono (h pins s σ H x v _ I rx (hd H hL)) (fun a s' e => EP.mono (fun v H' ⟨L', h1, h2⟩ => k v L' H' h2 h1) e) fun _ _ z => z
theorem CallL.of {f : Value} {r : List V → Hp → VK → Prop} (h : CallR X f r) : CallL X f (fun x L Q => Dn (r x) L Q) := by
  intro pins s σ H x v Q I rx q
  obtain ⟨L, QL, hL, hd, k⟩ := q
  exact wpAny_mono (h pins s σ H x v _ I rx (hd H hL)) (fun a s' e => EP.mono (fun v H' ⟨L', h1, h2⟩ => k v L' H' h2 h1) e) fun _ _ z => z
theorem IxL.of {r : R2} (h : IxR X r) : IxL X (fun x y L Q => Dn (r x y) L Q) := by
  intro value slice pins s σ H x y v u Q I rx ry q hs
  obtain ⟨L, QL, hL, hd, k⟩ := q
  exact wpAny_mono (h value slice pins s σ H x y v u _ I rx ry (hd H hL) hs) (fun a s' e => EP.mono (fun v H' ⟨L', h1, h2⟩ => k v L' H' h2 h1) e) fun _ _ z => z
theorem MtL.of {id : String} {r : V → List V → Hp → VK → Prop} (h : MtR X id r) : MtL X id (fun x xs L Q => Dn (r x xs) L Q) := by
  intro pins s σ H x y v u Q I rx ry q
  obtain ⟨L, QL, hL, hd, k⟩ := q
  exact wpAny_mono (h pins s σ H x y v u _ I rx ry (hd H hL)) (fun a s' e => EP.mono (fun v H' ⟨L', h1, h2⟩ => k v L' H' h2 h1) e) fun _ _ z => z
theorem SlL.of {r : V → Option Int → Option Int → Hp → VK → Prop} (h : SlR X r) : SlL X (fun x lo hi L Q => Dn (r x lo hi) L Q) := by
  intro pins s σ H x v vl vu lo hi sl Q I rx hs pl pu q
  obtain ⟨L, QL, hL, hd, k⟩ := q
  obtain ⟨T, id, h1, h2, h3⟩ := h pins s σ H x v vl vu lo hi sl _ I rx hs pl pu (hd H hL)
  exact ⟨T, id, h1, h2, wpAny_mono h3 (fun a s' e => EP.mono (fun v H' ⟨L', h1, h2⟩ => k v L' H' h2 h1) e) fun _ _ z => z⟩
theorem TruL.of {r : V → Hp → (Bool → Hp → Prop) → Prop} (h : TruR X r) : TruL X (fun x L Q => Dn (r x) L Q) := by
  intro pins s σ H x v Q I rx q
  obtain ⟨L, QL, hL, hd, k⟩ := q
  exact wpAny_mono (h pins s σ H x v _ I rx (hd H hL)) (fun a s' e => TP.mono (fun v H' ⟨L', h1, h2⟩ => k v L' H' h2 h1) e) fun _ _ z => z
/-- two rules for one operation -/
theorem OpL.or {f : Value → Value → Sem Value} {r r' : LR2} (h : OpL X f r) (h' : OpL X f r') : OpL X f (fun x y L Q => r x y L Q ∨ r' x y L Q) := by
  intro pins s σ H x y v u Q I rx ry q
  obtain ⟨L, QL, hL, hd, k⟩ := q
  rcases hd with hd | hd
  · exact h pins s σ H x y v u Q I rx ry ⟨L, QL, hL, hd, k⟩
  · exact h' pins s σ H x y v u Q I rx ry ⟨L, QL, hL, hd, k⟩
theorem CallL.or {f : Value} {r r' : LRC} (h : CallL X f r) (h' : CallL X f r') : CallL X f (fun x L Q => r x L Q ∨ r' x L Q) := by
  intro pins s σ H x v Q I rx q
  obtain ⟨L, QL, hL, hd, k⟩ := q
  rcases hd with hd | hd
  · exact h pins s σ H x v Q I rx ⟨L, QL, hL, hd, k⟩
  · exact h' pins s σ H x v Q I rx ⟨L, QL, hL, hd, k⟩
theorem IxL.or {r r' : LR2} (h : IxL X r) (h' : IxL X r') : IxL X (fun x y L Q => r x y L Q ∨ r' x y L Q) := by
  intro value slice pins s σ H x y v u Q I rx ry q hs
  obtain ⟨L, QL, hL, hd, k⟩ := q
  rcases hd with hd | hd
  · exact h value slice pins s σ H x y v u Q I rx ry ⟨L, QL, hL, hd, k⟩ hs
  · exact h' value slice pins s σ H x y v u Q I rx ry ⟨L, QL, hL, hd, k⟩ hs
theorem MtL.or {id : String} {r r' : V → LRC} (h : MtL X id r) (h' : MtL X id r') : MtL X id (fun x xs L Q => r x xs L Q ∨ r' x xs L Q) := by
  intro pins s σ H x y v u Q I rx ry q
  obtain ⟨L, QL, hL, hd, k⟩ := q
  rcases hd with hd | hd
  · exact h pins s σ H x y v u Q I rx ry ⟨L, QL, hL, hd, k⟩
  · exact h' pins s σ H x y v u Q I rx ry ⟨L, QL, hL, hd, k⟩
theorem SlL.or {r r' : V → Option Int → Option Int → Lg → LVK → Prop} (h : SlL X r) (h' : SlL X r') : SlL X (fun x lo hi L Q => r x lo hi L Q ∨ r' x lo hi L Q) := by
  intro pins s σ H x v vl vu lo hi sl Q I rx hs pl pu q
  obtain ⟨L, QL, hL, hd, k⟩ := q
  rcases hd with hd | hd
  · exact h pins s σ H x v vl vu lo hi sl Q I rx hs pl pu ⟨L, QL, hL, hd, k⟩
  · exact h' pins s σ H x v vl vu lo hi sl Q I rx hs pl pu ⟨L, QL, hL, hd, k⟩
end

/-! ### expressions -/
section
variable {X : Cx} {a b c e : Expr} {es rest : List Expr} {ta tb tc te : LTE} {t u : LTT} {tr : LTA} {pos : Pos}
def lVar (i : Nat) : LTE := fun σ L Q => ∃ v, σ[i]? = some (some v) ∧ Q v L
def lC (v : V) : LTE := fun _ L Q => Q v L
theorem lv (i : Nat) {x : Str} {pos : Pos} (hN : X.N[i]? = some x := by rfl) (hv : Vis X.env.scope x := by first | exact Or.inl rfl | exact Or.inr (Or.inl rfl) | exact Or.inr (Or.inr rfl)) (hd : (x == ("__debug__" : Str)) = false := by decide)
    (hcd : (x == ("__classdict__" : Str)) = false := by decide) : LE X (.Name x pos) (lVar i) :=
  PE.imp (pv i hN hv hd hcd) fun _ H _ ⟨_, _, hL, ⟨v, e, q⟩, k⟩ => ⟨v, e, k _ _ _ q hL⟩
theorem lc_of {v : V} (h : PE X e (tC v)) : LE X e (lC v) := PE.imp h fun _ _ _ ⟨_, _, hL, q, k⟩ => k _ _ _ q hL
theorem lint {i j pos} : LE X (.Constant (.int i) j pos) (lC (.int i)) := lc_of pe_int
theorem lbl {b j pos} : LE X (.Constant (.bool b) j pos) (lC (.bl b)) := lc_of pe_bl
theorem lnon {j pos} : LE X (.Constant .none j pos) (lC .non) := lc_of pe_non
theorem lstr {x j pos} : LE X (.Constant (.str x) j pos) (lC (.str x)) := lc_of pe_str
theorem lglob {x : Str} {v : V} {u : Value} {pos : Pos} (hg : Gl X x) (hm : X.mg x = some u) (r : RelV v u) (hd : (x == ("__debug__" : Str)) = false := by decide) : LE X (.Name x pos) (lC v) := lc_of (pe_glob hg hm r hd)
theorem lglobI {x : Str} {i : Int} {pos : Pos} (hg : Gl X x) (hm : ∃ t, X.mg x = some (.int i t)) (hd : (x == ("__debug__" : Str)) = false := by decide) : LE X (.Name x pos) (lC (.int i)) := by
  obtain ⟨t, e⟩ := hm
  exact lglob hg e ⟨t, rfl⟩ hd
theorem lbltn {x : Str} {v : V} {u : Value} {pos : Pos} (hg : Gl X x) (hm : X.mg x = none) (hv : bootBuiltins x = some u) (r : RelV v u) (hn : x ≠ "__name__" := by decide) (hd : (x == ("__debug__" : Str)) = false := by decide) : LE X (.Name x pos) (lC v) := lc_of (pe_bltn hg hm hv r hn hd)
def lOp (r : LR2) (ta tb : LTE) : LTE := fun σ L Q => ta σ L fun x L1 => tb σ L1 fun y L2 => r x y L2 Q
def lUn (r : LR1) (ta : LTE) : LTE := fun σ L Q => ta σ L fun x L1 => r x L1 Q
theorem up_op {r : LR2} {σ : St} {H : Hp} {Q : VK} (h : Up (lOp r ta tb σ) H Q) : Up (ta σ) H fun x H1 => Up (tb σ) H1 fun y H2 => Up (r x y) H2 Q := by
  obtain ⟨L, QL, hL, h, k⟩ := h
  exact ⟨L, _, hL, h, fun x L1 H1 h1 hL1 => ⟨L1, _, hL1, h1, fun y L2 H2 h2 hL2 => ⟨L2, QL, hL2, h2, k⟩⟩⟩
theorem up_un {r : LR1} {σ : St} {H : Hp} {Q : VK} (h : Up (lUn r ta σ) H Q) : Up (ta σ) H fun x H1 => Up (r x) H1 Q := by
  obtain ⟨L, QL, hL, h, k⟩ := h
  exact ⟨L, _, hL, h, fun x L1 H1 h1 hL1 => ⟨L1, QL, hL1, h1, k⟩⟩
theorem lop {op : Operator} {r : LR2} (ho : OpL X (binaryOp op) r) (ha : LE X a ta) (hb : LE X b tb) : LE X (.BinOp a op b pos) (lOp r ta tb) := PE.imp (pe_op ho ha hb) fun _ _ _ h => up_op h
theorem lun {op : UnaryOp} {r : LR1} (ho : UnL X (unaryOp op) r) (ha : LE X a ta) : LE X (.UnaryOp op a pos) (lUn r ta) := PE.imp (pe_un ho ha) fun _ _ _ h => up_un h
theorem lcmp {op : CmpOp} {r : LR2} (ho : OpL X (compareOp op) r) (ha : LE X a ta) (hb : LE X b tb) (hm : behindInMarks op b = false) : LE X (.Compare a [op] [b] pos) (lOp r ta tb) := PE.imp (pe_cmpR ho ha hb hm) fun _ _ _ h => up_op h
/-- a value as a test -/
def BlK (Q : Bool → Lg → Prop) : V → Lg → Prop := fun x L => ∃ k, x = .bl k ∧ Q k L
def lTest (t : LTE) : LTT := fun σ L Q => t σ L (BlK Q)
theorem lt_cmp {op : CmpOp} {r : LR2} (ho : OpL X (compareOp op) r) (ha : LE X a ta) (hb : LE X b tb) (hm : behindInMarks op b = false) : LT X (.Compare a [op] [b] pos) (lTest (lOp r ta tb)) := by
  refine PT.imp (pt_cmpR ho ha hb hm) fun σ H Q h => ?_
  obtain ⟨L, QL, hL, h, k⟩ := h
  refine up_op (r := r) (ta := ta) (tb := tb) (Q := fun x H' => ∃ k, x = .bl k ∧ Q k H') ⟨L, _, hL, h, ?_⟩
  rintro v L' H' ⟨b, rfl, q⟩ hL'
  exact ⟨b, rfl, k _ _ _ q hL'⟩
/-- chains -/
def lChain (r r' : LR2) (ta tb tc : LTE) : LTE := fun σ L Q => ta σ L fun x L1 => tb σ L1 fun y L2 => r x y L2 fun z L3 => ∃ k, z = .bl k ∧ (if k = true then tc σ L3 fun w' L4 => r' y w' L4 Q else Q (.bl false) L3)
theorem up_chain {r r' : LR2} {σ : St} {H : Hp} {Q : VK} (h : Up (lChain r r' ta tb tc σ) H Q) : Up (ta σ) H fun x H1 => Up (tb σ) H1 fun y H2 => Up (r x y) H2 fun z H3 => ∃ k, z = .bl k ∧ (if k = true then Up (tc σ) H3 fun w' H4 => Up (r' y w') H4 Q else Q (.bl false) H3) := by
  obtain ⟨L, QL, hL, h, k⟩ := h
  refine ⟨L, _, hL, h, fun x L1 H1 h1 hL1 => ⟨L1, _, hL1, h1, fun y L2 H2 h2 hL2 => ⟨L2, _, hL2, h2, ?_⟩⟩⟩
  rintro z L3 H3 ⟨b, rfl, q⟩ hL3
  refine ⟨b, rfl, ?_⟩
  cases b with
  | true => exact ⟨L3, _, hL3, q, fun w' L4 H4 h4 hL4 => ⟨L4, QL, hL4, h4, k⟩⟩
  | false => exact k _ _ _ q hL3
theorem lchain {op op' : CmpOp} {r r' : LR2} (ho : OpL X (compareOp op) r) (ho' : OpL X (compareOp op') r') (ha : LE X a ta) (hb : LE X b tb) (hc : LE X c tc) (hm : lastMarks [op, op'] [b, c] = false := by with_unfolding_all rfl) : LE X (.Compare a [op, op'] [b, c] pos) (lChain r r' ta tb tc) :=
  PE.imp (pe_chain ho ho' ha hb hc hm) fun _ _ _ h => up_chain h
theorem lt_chain {op op' : CmpOp} {r r' : LR2} (ho : OpL X (compareOp op) r) (ho' : OpL X (compareOp op') r') (ha : LE X a ta) (hb : LE X b tb) (hc : LE X c tc) (hm : lastMarks [op, op'] [b, c] = false := by with_unfolding_all rfl) : LT X (.Compare a [op, op'] [b, c] pos) (lTest (lChain r r' ta tb tc)) := by
  refine PT.imp (pt_chain ho ho' ha hb hc hm) fun σ H Q h => ?_
  obtain ⟨L, QL, hL, h, k⟩ := h
  refine up_chain (r := r) (r' := r') (ta := ta) (tb := tb) (tc := tc) (Q := fun x H' => ∃ k, x = .bl k ∧ Q k H') ⟨L, _, hL, h, ?_⟩
  rintro v L' H' ⟨b, rfl, q⟩ hL'
  exact ⟨b, rfl, k _ _ _ q hL'⟩
/-- an expression whose value is a bool, as a test -/
theorem lt_val (h : LE X e te) (he : ∀ whole, isTrue e X.env whole = (do let v ← whole; standAt e.pos; holding [v] (truthy v)) := by intro _; rfl) : LT X e (lTest te) := by
  refine PT.imp (pt_val h he) fun σ H Q h => ?_
  obtain ⟨L, QL, hL, h, k⟩ := h
  refine ⟨L, _, hL, h, ?_⟩
  rintro v L' H' ⟨b, rfl, q⟩ hL'
  exact ⟨b, rfl, k _ _ _ q hL'⟩
/-! and, or, not as tests -/
def lAnd (t u : LTT) : LTT := fun σ L Q => t σ L fun c L1 => if c = true then u σ L1 Q else Q false L1
def lOr (t u : LTT) : LTT := fun σ L Q => t σ L fun c L1 => if c = true then Q true L1 else u σ L1 Q
def lNot (t : LTT) : LTT := fun σ L Q => t σ L fun c L1 => Q (!c) L1
theorem lw_and1 (ha : LT X a t) : LW X (.BoolOp .And [a] pos) t := pw_and1 ha
theorem lw_or1 (ha : LT X a t) : LW X (.BoolOp .Or [a] pos) t := pw_or1 ha
theorem lw_and (ha : LT X a t) (hb : LW X (.BoolOp .And (b :: rest) pos) u) : LW X (.BoolOp .And (a :: b :: rest) pos) (lAnd t u) := by
  refine PW.imp (pw_and ha hb) fun σ H Q h => ?_
  obtain ⟨L, QL, hL, h, k⟩ := h
  refine ⟨L, _, hL, h, fun c L1 H1 h1 hL1 => ?_⟩
  cases c with
  | true => exact ⟨L1, QL, hL1, h1, k⟩
  | false => exact k _ _ _ h1 hL1
theorem lw_or (ha : LT X a t) (hb : LW X (.BoolOp .Or (b :: rest) pos) u) : LW X (.BoolOp .Or (a :: b :: rest) pos) (lOr t u) := by
  refine PW.imp (pw_or ha hb) fun σ H Q h => ?_
  obtain ⟨L, QL, hL, h, k⟩ := h
  refine ⟨L, _, hL, h, fun c L1 H1 h1 hL1 => ?_⟩
  cases c with
  | true => exact k _ _ _ h1 hL1
  | false => exact ⟨L1, QL, hL1, h1, k⟩
theorem LW.pt (h : LW X e t) : LT X e t := PW.pt h
theorem lt_not (ha : LT X a t) : LT X (.UnaryOp .Not a pos) (lNot t) := by
  refine PT.imp (pt_not ha) fun σ H Q h => ?_
  obtain ⟨L, QL, hL, h, k⟩ := h
  exact ⟨L, _, hL, h, fun c L1 H1 h1 hL1 => k _ _ _ h1 hL1⟩
/-! .. as values -/
def lAndV (ta tb : LTE) : LTE := fun σ L Q => ta σ L (BlK fun c L1 => if c = true then tb σ L1 Q else Q (.bl false) L1)
def lOrV (ta tb : LTE) : LTE := fun σ L Q => ta σ L (BlK fun c L1 => if c = true then Q (.bl true) L1 else tb σ L1 Q)
def lNotV (ta : LTE) : LTE := fun σ L Q => ta σ L (BlK fun c L1 => Q (.bl (!c)) L1)
theorem lone {op} (h : LE X a te) : LE X (.BoolOp op [a] pos) te := pe_one h
theorem land (ha : LE X a ta) (hb : LE X (.BoolOp .And (b :: rest) pos) tb) : LE X (.BoolOp .And (a :: b :: rest) pos) (lAndV ta tb) := by
  refine PE.imp (pe_and ha hb) fun σ H Q h => ?_
  obtain ⟨L, QL, hL, h, k⟩ := h
  refine ⟨L, _, hL, h, ?_⟩
  rintro v L' H' ⟨c, rfl, q⟩ hL'
  refine ⟨c, rfl, ?_⟩
  cases c with
  | true => exact ⟨L', QL, hL', q, k⟩
  | false => exact k _ _ _ q hL'
theorem lor (ha : LE X a ta) (hb : LE X (.BoolOp .Or (b :: rest) pos) tb) : LE X (.BoolOp .Or (a :: b :: rest) pos) (lOrV ta tb) := by
  refine PE.imp (pe_or ha hb) fun σ H Q h => ?_
  obtain ⟨L, QL, hL, h, k⟩ := h
  refine ⟨L, _, hL, h, ?_⟩
  rintro v L' H' ⟨c, rfl, q⟩ hL'
  refine ⟨c, rfl, ?_⟩
  cases c with
  | true => exact k _ _ _ q hL'
  | false => exact ⟨L', QL, hL', q, k⟩
theorem lnot (ha : LE X a ta) : LE X (.UnaryOp .Not a pos) (lNotV ta) := by
  refine PE.imp (pe_not ha) fun σ H Q h => ?_
  obtain ⟨L, QL, hL, h, k⟩ := h
  refine ⟨L, _, hL, h, ?_⟩
  rintro v L' H' ⟨c, rfl, q⟩ hL'
  exact ⟨c, rfl, k _ _ _ q hL'⟩
def lIfE (t : LTT) (ta tb : LTE) : LTE := fun σ L Q => t σ L fun c L1 => if c = true then ta σ L1 Q else tb σ L1 Q
theorem lifExp (hc : LT X c t) (ha : LE X a ta) (hb : LE X b tb) : LE X (.IfExp c a b pos) (lIfE t ta tb) := by
  refine PE.imp (pe_ifExp hc ha hb) fun σ H Q h => ?_
  obtain ⟨L, QL, hL, h, k⟩ := h
  refine ⟨L, _, hL, h, fun d L1 H1 h1 hL1 => ?_⟩
  cases d with
  | true => exact ⟨L1, QL, hL1, h1, k⟩
  | false => exact ⟨L1, QL, hL1, h1, k⟩
/-! arguments, displays -/
def lNil : LTA := fun _ L Q => Q [] L
def lCons (ta : LTE) (tr : LTA) : LTA := fun σ L Q => ta σ L fun x L1 => tr σ L1 fun xs L2 => Q (x :: xs) L2
theorem la_nil : LA X [] lNil := PA.imp pa_nil fun _ _ _ ⟨_, _, hL, q, k⟩ => k _ _ _ q hL
theorem la_cons (ha : LE X e te) (hr : LA X es tr) (hs : starEach (e :: es) X.env = (false, eval e X.env) :: starEach es X.env := by rfl) : LA X (e :: es) (lCons te tr) := by
  refine PA.imp (pa_cons ha hr hs) fun σ H Q h => ?_
  obtain ⟨L, QL, hL, h, k⟩ := h
  exact ⟨L, _, hL, h, fun x L1 H1 h1 hL1 => ⟨L1, _, hL1, h1, fun xs L2 H2 h2 hL2 => k _ _ _ h2 hL2⟩⟩
def lTup (t : LTA) : LTE := fun σ L Q => t σ L fun xs L1 => xs.length ≤ sizeLine ∧ ∀ p, p ∉ keys L1 → Q (.ref p) ([(p, .tup xs)] :: L1)
def lLst (t : LTA) : LTE := fun σ L Q => t σ L fun xs L1 => xs.length ≤ sizeLine ∧ ∀ p, p ∉ keys L1 → Q (.ref p) ([(p, .lst xs)] :: L1)
theorem ltup {x1} (h : LA X es tr) : LE X (.Tuple es x1 pos) (lTup tr) := by
  refine PE.imp (pe_tup h) fun σ H Q h => ?_
  obtain ⟨L, QL, hL, h, k⟩ := h
  exact ⟨L, _, hL, h, fun xs L1 H1 ⟨h1, h2⟩ hL1 => ⟨h1, fun p hp => k _ _ _ (h2 p (hL1.fresh hp)) (hL1.new hp)⟩⟩
theorem llst (h : LA X es tr) : LE X (.List es pos) (lLst tr) := by
  refine PE.imp (pe_lst h) fun σ H Q h => ?_
  obtain ⟨L, QL, hL, h, k⟩ := h
  exact ⟨L, _, hL, h, fun xs L1 H1 ⟨h1, h2⟩ hL1 => ⟨h1, fun p hp => k _ _ _ (h2 p (hL1.fresh hp)) (hL1.new hp)⟩⟩
/-! subscripts, slices -/
theorem lix {r : LR2} (hr : IxL X r) (ha : LE X a ta) (hb : LE X b tb) (hs : PlainIx b) : LE X (.Subscript a b pos) (lOp r ta tb) := PE.imp (pe_ix hr ha hb hs) fun _ _ _ h => up_op h
abbrev LTO := St → Lg → (Option Int → Lg → Prop) → Prop
def LO (X : Cx) (e : Option Expr) (t : LTO) : Prop := PO X e fun σ H Q => Up (t σ) H Q
def lNoPart : LTO := fun _ L Q => Q none L
def IntK (Q : Int → Lg → Prop) : V → Lg → Prop := fun x L => ∃ i, x = .int i ∧ Q i L
def lPart (t : LTE) : LTO := fun σ L Q => t σ L (IntK fun i L1 => Q (some i) L1)
theorem PO.imp {e : Option Expr} {t t' : TO} (p : PO X e t) (h : ∀ σ H Q, t' σ H Q → t σ H Q) : PO X e t' := ⟨fun pins s σ H Q I q => p.run pins s σ H Q I (h _ _ _ q)⟩
theorem lo_none : LO X none lNoPart := PO.imp po_none fun _ _ _ ⟨_, _, hL, q, k⟩ => k _ _ _ q hL
theorem lo_some (h : LE X e te) : LO X (some e) (lPart te) := by
  refine PO.imp (po_some h) fun σ H Q h => ?_
  obtain ⟨L, QL, hL, h, k⟩ := h
  refine ⟨L, _, hL, h, ?_⟩
  rintro v L' H' ⟨i, rfl, q⟩ hL'
  exact ⟨i, rfl, k _ _ _ q hL'⟩
def lSl (r : V → Option Int → Option Int → Lg → LVK → Prop) (te : LTE) (tl th : LTO) : LTE := fun σ L Q => te σ L fun x L1 => tl σ L1 fun l L2 => th σ L2 fun u L3 => r x l u L3 Q
theorem lslice {lo hi : Option Expr} {tl th : LTO} {p2 : Pos} {r : V → Option Int → Option Int → Lg → LVK → Prop} (hr : SlL X r) (he : LE X e te) (hl : LO X lo tl) (hu : LO X hi th) : LE X (.Subscript e (.Slice lo hi none p2) pos) (lSl r te tl th) := by
  refine PE.imp (pe_slice hr he hl hu) fun σ H Q h => ?_
  obtain ⟨L, QL, hL, h, k⟩ := h
  exact ⟨L, _, hL, h, fun x L1 H1 h1 hL1 => ⟨L1, _, hL1, h1, fun l L2 H2 h2 hL2 => ⟨L2, _, hL2, h2, fun u L3 H3 h3 hL3 => ⟨L3, QL, hL3, h3, k⟩⟩⟩⟩
/-! calls of built-ins -/
variable {x name : Str} {p apos cpos : Pos} {id T : String} {o : Expr} {to : LTE}
def lCB (r : LRC) (t : LTA) : LTE := fun σ L Q => t σ L fun vs L1 => r vs L1 Q
theorem up_cb {r : LRC} {σ : St} {H : Hp} {Q : VK} (h : Up (lCB r tr σ) H Q) : Up (tr σ) H fun vs H1 => Up (r vs) H1 Q := by
  obtain ⟨L, QL, hL, h, k⟩ := h
  exact ⟨L, _, hL, h, fun x L1 H1 h1 hL1 => ⟨L1, QL, hL1, h1, k⟩⟩
theorem lcallB {r : LRC} (hc : CallL X (.builtin id) r) (hg : Gl X x) (hm : X.mg x = none) (hv : bootBuiltins x = some (.builtin id)) (ha : LA X (e :: es) tr) (hn : x ≠ "__name__" := by decide) (hdb : (x == ("__debug__" : Str)) = false := by decide)
    (he : starEach (e :: es) X.env = (false, eval e X.env) :: starEach es X.env := by rfl) (hpl : (backTo pos (starEach es X.env)).any (·.1) = false := by rfl) : LE X (.Call (.Name x p) (e :: es) [] pos) (lCB r tr) :=
  PE.imp (pe_callB hc hg hm hv ha hn hdb he hpl) fun _ _ _ h => up_cb h
theorem lcallTy {r : LRC} (hc : CallL X (.type T) r) (hg : Gl X x) (hm : X.mg x = none) (hv : bootBuiltins x = some (.type T)) (ha : LA X (e :: es) tr) (hn : x ≠ "__name__" := by decide) (hdb : (x == ("__debug__" : Str)) = false := by decide)
    (he : starEach (e :: es) X.env = (false, eval e X.env) :: starEach es X.env := by rfl) (hpl : (backTo pos (starEach es X.env)).any (·.1) = false := by rfl) : LE X (.Call (.Name x p) (e :: es) [] pos) (lCB r tr) :=
  PE.imp (pe_callTy hc hg hm hv ha hn hdb he hpl) fun _ _ _ h => up_cb h
/-- the value is of that built-in type, by the ledger -/
def TyL (K : PySem.W.Frag) (T : String) (x : V) (L : Lg) : Prop := ∀ H, Led H L → tyV K T x H
def lBM0 (K : PySem.W.Frag) (T : String) (r : V → LRC) (to : LTE) : LTE := fun σ L Q => to σ L fun x L1 => TyL K T x L1 ∧ r x [] L1 Q
def lBM (K : PySem.W.Frag) (T : String) (r : V → LRC) (to : LTE) (t : LTA) : LTE := fun σ L Q => to σ L fun x L1 => TyL K T x L1 ∧ t σ L1 fun xs L2 => r x xs L2 Q
theorem lbm0 {r : V → LRC} (pa : PlainAttrs T) (slot : Slot T name id) (hty : typeOf (.builtin id) = pure (.type "method_descriptor")) (hm : MtL X id r) (ho : LE X o to)
    (hbase : attributeBase o name X.env (eval o X.env) = eval o X.env := by rfl) (hline : (apos.endLine == cpos.line) = true := by rfl) : LE X (.Call (.Attribute o name apos) [] [] cpos) (lBM0 X.K T r to) := by
  refine PE.imp (pe_bm0 pa slot hty hm ho hbase hline) fun σ H Q h => ?_
  obtain ⟨L, QL, hL, h, k⟩ := h
  exact ⟨L, _, hL, h, fun x L1 H1 ⟨h1, h2⟩ hL1 => ⟨h1 H1 hL1, L1, QL, hL1, h2, k⟩⟩
theorem lbm {r : V → LRC} (pa : PlainAttrs T) (slot : Slot T name id) (hty : typeOf (.builtin id) = pure (.type "method_descriptor")) (hm : MtL X id r) (ho : LE X o to) (ha : LA X (e :: es) tr)
    (hbase : attributeBase o name X.env (eval o X.env) = eval o X.env := by rfl)
    (hfew : ((backTo cpos (starEach (e :: es) X.env)).all (fun x => !x.1) && (backToKw cpos (keywordEach [] X.env)).all (fun x => x.1.isSome)
      && decide ((e :: es).length + ([] : List Keyword).length + (if ([] : List Keyword).isEmpty then 0 else 1) < 30)) = true := by rfl)
    (hline : (apos.endLine == cpos.line) = true := by rfl) (hs : starEach (e :: es) X.env = (false, eval e X.env) :: starEach es X.env := by rfl) (hplain : (backTo cpos (starEach es X.env)).any (·.1) = false := by rfl) :
    LE X (.Call (.Attribute o name apos) (e :: es) [] cpos) (lBM X.K T r to tr) := by
  refine PE.imp (pe_bm pa slot hty hm ho ha hbase hfew hline hs hplain) fun σ H Q h => ?_
  obtain ⟨L, QL, hL, h, k⟩ := h
  exact ⟨L, _, hL, h, fun x L1 H1 ⟨h1, h2⟩ hL1 => ⟨h1 H1 hL1, L1, _, hL1, h2, fun xs L2 H2 h2 hL2 => ⟨L2, QL, hL2, h2, k⟩⟩⟩
/-! fields -/
/-- x has the field f with the value v: an instance that stands in the ledger -/
def FldL (K : PySem.W.Frag) (f : Str) (x : V) (L : Lg) (Q : LVK) : Prop := Dn (fun H Q => ∃ a C dx fs v, x = .ref a ∧ H a = some (.ins C dx fs) ∧ Cls K C ∧ NoAttr K C f ∧ fs.lookup f = some v ∧ Q v H) L Q
def lFld (K : PySem.W.Frag) (ta : LTE) (f : Str) : LTE := fun σ L Q => ta σ L fun x L1 => FldL K f x L1 Q
theorem lfld {f : Str} (he : LE X e te) (hb : attributeBase e f X.env (eval e X.env) = eval e X.env := by rfl) : LE X (.Attribute e f pos) (lFld X.K te f) := by
  refine PE.imp (pe_fld he hb) fun σ H Q h => ?_
  obtain ⟨L, QL, hL, h, k⟩ := h
  refine ⟨L, _, hL, h, fun x L1 H1 h1 hL1 => ?_⟩
  obtain ⟨a, C, dx, fs, v, e1, e2, e3, e4, e5, L', h1, h2⟩ := h1 H1 hL1
  exact ⟨a, C, dx, fs, v, e1, e2, e3, e4, e5, k _ _ _ h2 h1⟩
/-! truth -/
def lTru (r : V → Lg → (Bool → Lg → Prop) → Prop) (ta : LTE) : LTT := fun σ L Q => ta σ L fun x L1 => r x L1 Q
def gTru (K : PySem.W.Frag) : V → Lg → (Bool → Lg → Prop) → Prop := fun x L Q => Dn (fun H Q => ∃ k, TruV K x H k ∧ Q k H) L Q
theorem lt_truth (ha : LE X a ta) (he : ∀ whole, isTrue a X.env whole = (do let v ← whole; standAt a.pos; holding [v] (truthy v)) := by intro _; rfl) : LT X a (lTru (gTru X.K) ta) := by
  refine PT.imp (pt_truth ha he) fun σ H Q h => ?_
  obtain ⟨L, QL, hL, h, k⟩ := h
  refine ⟨L, _, hL, h, fun x L1 H1 h1 hL1 => ?_⟩
  obtain ⟨b, h2, L', h3, h4⟩ := h1 H1 hL1
  exact ⟨b, h2, k _ _ _ h4 h3⟩
end
end VM

end

section
namespace VM
open PySem PySem.Spec L2
open PyProof.Rows hiding St

/-! ### calls of defs -/
abbrev LXK := Value → Option Addr → Lg → Prop
abbrev LSp := List V → Lg → LVK → LXK → Prop
def UpP (sp : LSp) : Sp := fun vs H Q E => ∃ L QL EL, Led H L ∧ sp vs L QL EL ∧ (∀ v L' H', QL v L' → Led H' L' → Q v H') ∧ (∀ c d L' H', EL c d L' → Led H' L' → E c d H')
def DnX (E : LXK) : XK := fun c d H => ∃ L, Led H L ∧ E c d L
def noX : LXK := fun _ _ _ => False
theorem UpP.len {sp : LSp} {n : Nat} (h : ∀ vs L Q E, sp vs L Q E → vs.length = n) : ∀ vs H Q E, UpP sp vs H Q E → vs.length = n := fun _ _ _ _ ⟨_, _, _, _, h1, _⟩ => h _ _ _ _ h1
/-- a def that lets nothing out may stand where one may -/
theorem FnOk.cx {P : Program} {w : World} {K : PySem.W.Frag} {mg : Str → Option Value} {base : Heap} {CX' : CXT} {k : Nat} {f : Addr} {fd : FuncData} {ps : List Str} {sp : Sp} (F : FnOk P w K mg base CX0 k f fd ps sp) : FnOk P w K mg base CX' k f fd ps sp :=
  ⟨F.len, fun A outer s H args us vs Q E hr e0 hb hv hs => codeAny_mono (F.run A outer s H args us vs Q E hr e0 hb hv hs) fun r s' q => by
    cases r with
    | ok fl => cases fl <;> exact q
    | error e => exact q.elim⟩
section
variable {X : Cx} {CXx : CXT} {k : Nat} {f C : Addr} {fd : FuncData} {ps : List Str} {sp : LSp} {dvs : List V} {ds : List Value} {E : LXK} {x m : Str} {p pos apos : Pos} {e o : Expr} {es : List Expr} {ta te : LTE} {t : LTA}
def lCall (sp : LSp) (dvs : List V) (E : LXK) (t : LTA) : LTE := fun σ L Q => t σ L fun vs L1 => sp (vs ++ dvs) L1 Q E
/-- x is an instance of C that has no attribute m of its own -/
def ObjL (C : Addr) (m : Str) (x : V) (L : Lg) : Prop := ∀ H, Led H L → ∃ a dx fs, x = .ref a ∧ H a = some (.ins C dx fs) ∧ fs.lookup m = none
def lMeth (C : Addr) (m : Str) (sp : LSp) (dvs : List V) (E : LXK) (ta : LTE) (t : LTA) : LTE := fun σ L Q => ta σ L fun x L1 => ObjL C m x L1 ∧ t σ L1 fun vs L2 => sp (x :: (vs ++ dvs)) L2 Q E
def lMake (C : Addr) (sp : LSp) (dvs : List V) (E : LXK) (t : LTA) : LTE := fun σ L Q => t σ L fun vs L1 => ∀ x dx, x ∉ keys L1 → sp (.ref x :: (vs ++ dvs)) ([(x, .ins C dx [])] :: L1) (fun v L2 => v = .non ∧ Q (.ref x) L2) E
theorem up_call {σ : St} {H : Hp} {Q : VK} (h : Up (lCall sp dvs E t σ) H Q) : Up (t σ) H fun vs H1 => UpP sp (vs ++ dvs) H1 Q (DnX E) := by
  obtain ⟨L, QL, hL, h, k⟩ := h
  exact ⟨L, _, hL, h, fun vs L1 H1 h1 hL1 => ⟨L1, QL, E, hL1, h1, k, fun c d L' H' q l => ⟨L', l, q⟩⟩⟩
theorem lcall (F : FnOk X.prog X.w X.K X.mg X.base CXx k f fd ps (UpP sp)) (hr : Room k X.A) (hg : Gl X x) (hm : X.mg x = some (.ref f)) (hk : PySem.W.keepIn X.K (.ref f) = true) (hb : Binds X.K fd ps ds) (hd : Vals dvs ds) (hx : Passes CXx X (DnX E))
    (ha : LA X (e :: es) t) (hdb : (x == ("__debug__" : Str)) = false := by decide) (he : starEach (e :: es) X.env = (false, eval e X.env) :: starEach es X.env := by rfl) (hpl : (backTo pos (starEach es X.env)).any (·.1) = false := by rfl) :
    LE X (.Call (.Name x p) (e :: es) [] pos) (lCall sp dvs E t) := PE.imp (pe_call F hr hg hm hk hb hd hx ha hdb he hpl) fun _ _ _ h => up_call h
theorem lcall0 (F : FnOk X.prog X.w X.K X.mg X.base CXx k f fd ps (UpP sp)) (hr : Room k X.A) (hg : Gl X x) (hm : X.mg x = some (.ref f)) (hk : PySem.W.keepIn X.K (.ref f) = true) (hb : Binds X.K fd ps ds) (hd : Vals dvs ds) (hx : Passes CXx X (DnX E))
    (hdb : (x == ("__debug__" : Str)) = false := by decide) : LE X (.Call (.Name x p) [] [] pos) (lCall sp dvs E lNil) := PE.imp (pe_call0 F hr hg hm hk hb hd hx hdb) fun σ H Q h => by
  obtain ⟨L, QL, hL, h, k⟩ := h
  exact ⟨L, QL, E, hL, h, k, fun c d L' H' q l => ⟨L', l, q⟩⟩
theorem passN {X : Cx} : Passes CX0 X (DnX E) := fun _ _ _ _ _ _ _ h => h.elim
theorem lmeth {pl : Sem Bool} (he : LE X o ta) (c : Cls X.K C) (hm : Meth X.K C m f) (F : FnOk X.prog X.w X.K X.mg X.base CXx k f fd ps (UpP sp)) (hr : Room k X.A) (hb : Binds X.K fd ps ds) (hd : Vals dvs ds) (hx : Passes CXx X (DnX E)) (ha : LA X (e :: es) t)
    (hst : starEach (e :: es) X.env = (false, eval e X.env) :: starEach es X.env := by rfl) (hpl : (backTo pos (starEach es X.env)).any (·.1) = false := by rfl)
    (ht : eval (.Call (.Attribute o m apos) (e :: es) [] pos) X.env = (do
      let ov ← eval o X.env
      standAt apos.atName
      let (f, first) ← holding [ov] (getMethod ov m pl)
      callWith pos f first (backTo pos (starEach (e :: es) X.env)) (backToKw pos (keywordEach [] X.env))) := by rfl) :
    LE X (.Call (.Attribute o m apos) (e :: es) [] pos) (lMeth C m sp dvs E ta t) := by
  refine PE.imp (pe_meth he c hm F hr hb hd hx ha hst hpl ht) fun σ H Q h => ?_
  obtain ⟨L, QL, hL, h, k⟩ := h
  refine ⟨L, _, hL, h, fun x L1 H1 ⟨h1, h2⟩ hL1 => ?_⟩
  obtain ⟨a, dx, fs, e1, e2, e3⟩ := h1 H1 hL1
  exact ⟨a, dx, fs, e1, e2, e3, L1, _, hL1, h2, fun vs L2 H2 h3 hL2 => ⟨L2, QL, E, hL2, h3, k, fun c d L' H' q l => ⟨L', l, q⟩⟩⟩
theorem lmeth0 {pl : Sem Bool} (he : LE X o ta) (c : Cls X.K C) (hm : Meth X.K C m f) (F : FnOk X.prog X.w X.K X.mg X.base CXx k f fd ps (UpP sp)) (hr : Room k X.A) (hb : Binds X.K fd ps ds) (hd : Vals dvs ds) (hx : Passes CXx X (DnX E))
    (ht : eval (.Call (.Attribute o m apos) [] [] pos) X.env = (do
      let ov ← eval o X.env
      standAt apos.atName
      let (f, first) ← holding [ov] (getMethod ov m pl)
      callWith pos f first (backTo pos (starEach [] X.env)) (backToKw pos (keywordEach [] X.env))) := by rfl) :
    LE X (.Call (.Attribute o m apos) [] [] pos) (lMeth C m sp dvs E ta lNil) := by
  refine PE.imp (pe_meth0 he c hm F hr hb hd hx ht) fun σ H Q h => ?_
  obtain ⟨L, QL, hL, h, k⟩ := h
  refine ⟨L, _, hL, h, fun x L1 H1 ⟨h1, h2⟩ hL1 => ?_⟩
  obtain ⟨a, dx, fs, e1, e2, e3⟩ := h1 H1 hL1
  exact ⟨a, dx, fs, e1, e2, e3, L1, QL, E, hL1, h2, k, fun c d L' H' q l => ⟨L', l, q⟩⟩
theorem led_ins {H1 : Hp} {L1 : Lg} {C x dx : Addr} (hL : Led H1 L1) (nx : H1 x = none) (nd : H1 dx = none) (ne : dx ≠ x) : Led (upd (upd H1 dx (.own x)) x (.ins C dx [])) ([(x, .ins C dx [])] :: L1) := by
  have h2 : Led (upd H1 dx (.own x)) L1 := Lic.tail _ (hL.new nd)
  exact h2.new (by rw [upd_ne (Ne.symm ne)]; exact nx)
theorem lmake (M : Mk X.K C f) (F : FnOk X.prog X.w X.K X.mg X.base CXx k f fd ps (UpP sp)) (hr : Room (k + 1) X.A) (hg : Gl X x) (hm : X.mg x = some (.ref C)) (hb : Binds X.K fd ps ds) (hd : Vals dvs ds) (hx : Passes CXx X (DnX E))
    (ha : LA X (e :: es) t) (hdb : (x == ("__debug__" : Str)) = false := by decide) (he : starEach (e :: es) X.env = (false, eval e X.env) :: starEach es X.env := by rfl) (hpl : (backTo pos (starEach es X.env)).any (·.1) = false := by rfl) :
    LE X (.Call (.Name x p) (e :: es) [] pos) (lMake C sp dvs E t) := by
  refine PE.imp (pe_make M F hr hg hm hb hd hx ha hdb he hpl) fun σ H Q h => ?_
  obtain ⟨L, QL, hL, h, k⟩ := h
  refine ⟨L, _, hL, h, fun vs L1 H1 h1 hL1 y dx ny nd ne => ?_⟩
  exact ⟨_, _, E, led_ins hL1 ny nd ne, h1 y dx (hL1.fresh ny), fun v L' H' ⟨q1, q2⟩ l => ⟨q1, k _ _ _ q2 l⟩, fun c d L' H' q l => ⟨L', l, q⟩⟩
end

/-! ### statements -/
structure LEnds where
  nx : St → Lg → Prop
  rt : LVK
  bk : St → Lg → Prop := fun _ _ => False
  ct : St → Lg → Prop := fun _ _ => False
abbrev LTS := LEnds → St → Lg → Prop
/-- the ledger may be told otherwise -/
def Wk (P : Lg → Prop) (L : Lg) : Prop := ∃ L', Lic L L' ∧ P L'
theorem Wk.go {P : Lg → Prop} {L : Lg} (h : P L) : Wk P L := ⟨L, .refl, h⟩
theorem Wk.by_ {P : Lg → Prop} {L L' : Lg} (l : Lic L L') (h : P L') : Wk P L := ⟨L', l, h⟩
def LEnds.lic (D : LEnds) : LEnds := ⟨fun σ => Wk (D.nx σ), fun v => Wk (D.rt v), fun σ => Wk (D.bk σ), fun σ => Wk (D.ct σ)⟩
structure EndsUp (DL : LEnds) (D : Ends) : Prop where
  nx : ∀ σ L H, DL.nx σ L → Led H L → D.nx σ H
  rt : ∀ v L H, DL.rt v L → Led H L → D.rt v H
  bk : ∀ σ L H, DL.bk σ L → Led H L → D.bk σ H
  ct : ∀ σ L H, DL.ct σ L → Led H L → D.ct σ H
theorem EndsUp.lic {DL : LEnds} {D : Ends} (k : EndsUp DL D) : EndsUp DL.lic D :=
  ⟨fun _ _ _ ⟨_, l, q⟩ h => k.nx _ _ _ q (l _ h), fun _ _ _ ⟨_, l, q⟩ h => k.rt _ _ _ q (l _ h), fun _ _ _ ⟨_, l, q⟩ h => k.bk _ _ _ q (l _ h), fun _ _ _ ⟨_, l, q⟩ h => k.ct _ _ _ q (l _ h)⟩
def UpS (t : LTS) : TS := fun D σ H => ∃ L DL, Led H L ∧ t DL σ L ∧ EndsUp DL D
def LS (X : Cx) (st : Stmt) (t : LTS) : Prop := PS X st (UpS t)
def LSs (X : Cx) (sts : List Stmt) (t : LTS) : Prop := PSs X sts (UpS t)
abbrev LTG := V → St → Lg → (St → Lg → Prop) → Prop
abbrev LTGs := List V → St → Lg → (St → Lg → Prop) → Prop
def UpG {α : Type} (g : α → St → Lg → (St → Lg → Prop) → Prop) : α → St → Hp → (St → Hp → Prop) → Prop := fun v σ H Q => ∃ L QL, Led H L ∧ g v σ L QL ∧ ∀ σ' L' H', QL σ' L' → Led H' L' → Q σ' H'
def LG (X : Cx) (tg : Expr) (g : LTG) : Prop := PG X tg (UpG g)
def LGs (X : Cx) (tgs : List Expr) (g : LTGs) : Prop := PGs X tgs (UpG g)
section
variable {X : Cx} {st : Stmt} {rest sts : List Stmt} {t u : LTS} {e : Expr} {te : LTE} {pos : Pos} {g : LTG} {gs : LTGs}
theorem PS.imp {t t' : TS} (p : PS X st t) (h : ∀ D σ H, t' D σ H → t D σ H) : PS X st t' := ⟨fun pins s σ H D I q => p.run pins s σ H D I (h _ _ _ q)⟩
theorem PSs.imp {t t' : TS} (p : PSs X sts t) (h : ∀ D σ H, t' D σ H → t D σ H) : PSs X sts t' := ⟨fun pins s σ H D I q => p.run pins s σ H D I (h _ _ _ q)⟩
theorem PG.imp {tg : Expr} {t t' : TG} (p : PG X tg t) (h : ∀ v σ H Q, t' v σ H Q → t v σ H Q) : PG X tg t' := ⟨fun pins s σ H v u Q I r q => p.run pins s σ H v u Q I r (h _ _ _ _ q)⟩
theorem PGs.imp {tg : List Expr} {t t' : TGs} (p : PGs X tg t) (h : ∀ v σ H Q, t' v σ H Q → t v σ H Q) : PGs X tg t' := ⟨fun pins s σ H v u Q I r q => p.run pins s σ H v u Q I r (h _ _ _ _ q)⟩
theorem LSs.nox (h : LSs X.nox sts t) : LSs X sts t := PSs.nox h
def lNext : LTS := fun D σ L => D.nx σ L
def lSeq (t u : LTS) : LTS := fun D σ L => t { D.lic with nx := fun σ' => Wk (u D σ') } σ L
def lLast (t : LTS) : LTS := fun D σ L => t D.lic σ L
theorem lss_nil : LSs X [] lNext := PSs.imp pss_nil fun _ _ _ ⟨_, _, hL, q, k⟩ => k.nx _ _ _ q hL
theorem lss_cons (h1 : LS X st t) (h2 : LSs X rest u) : LSs X (st :: rest) (lSeq t u) := by
  refine PSs.imp (pss_cons h1 h2) fun D σ H h => ?_
  obtain ⟨L, DL, hL, h, k⟩ := h
  exact ⟨L, _, hL, h, ⟨fun σ' L' H' ⟨L2, l, q⟩ hL' => ⟨L2, DL, l _ hL', q, k⟩, k.lic.rt, k.lic.bk, k.lic.ct⟩⟩
theorem lss_one (h1 : LS X st t) : LSs X [st] (lLast t) := by
  refine PSs.imp (pss_one h1) fun D σ H h => ?_
  obtain ⟨L, DL, hL, h, k⟩ := h
  exact ⟨L, _, hL, h, k.lic⟩
def lBreak : LTS := fun D σ L => D.bk σ L
def lCont : LTS := fun D σ L => D.ct σ L
theorem ls_pass : LS X (.Pass pos) lNext := PS.imp ps_pass fun _ _ _ ⟨_, _, hL, q, k⟩ => k.nx _ _ _ q hL
theorem ls_break : LS X (.Break pos) lBreak := PS.imp ps_break fun _ _ _ ⟨_, _, hL, q, k⟩ => k.bk _ _ _ q hL
theorem ls_continue : LS X (.Continue pos) lCont := PS.imp ps_continue fun _ _ _ ⟨_, _, hL, q, k⟩ => k.ct _ _ _ q hL
def lDrop (te : LTE) : LTS := fun D σ L => te σ L fun _ L1 => D.nx σ L1
theorem ls_expr (he : LE X e te) (hs : swapsWith e none pos.line X.env = pure false := by rfl) : LS X (.Expr e pos) (lDrop te) := by
  refine PS.imp (ps_expr he hs) fun D σ H h => ?_
  obtain ⟨L, DL, hL, h, k⟩ := h
  exact ⟨L, _, hL, h, fun v L' H' q l => k.nx _ _ _ q l⟩
def lRet (te : LTE) : LTS := fun D σ L => te σ L D.rt
theorem ls_ret (he : LE X e te) : LS X (.Return (some e) pos) (lRet te) := by
  refine PS.imp (ps_ret he) fun D σ H h => ?_
  obtain ⟨L, DL, hL, h, k⟩ := h
  exact ⟨L, _, hL, h, fun v L' H' q l => k.rt _ _ _ q l⟩
def lRetN : LTS := fun D _ L => D.rt .non L
theorem ls_retN : LS X (.Return none pos) lRetN := PS.imp ps_retN fun _ _ _ ⟨_, _, hL, q, k⟩ => k.rt _ _ _ q hL
def lIf (c : LTT) (t u : LTS) : LTS := fun D σ L => c σ L fun b L1 => if b = true then t D σ L1 else u D σ L1
theorem ls_if {c : Expr} {a b : List Stmt} {tc : LTT} (hc : LT X c tc) (ha : LSs X a t) (hb : LSs X b u) : LS X (.If c a b pos) (lIf tc t u) := by
  refine PS.imp (ps_if hc ha hb) fun D σ H h => ?_
  obtain ⟨L, DL, hL, h, k⟩ := h
  refine ⟨L, _, hL, h, fun d L' H' q l => ?_⟩
  cases d with
  | true => exact ⟨L', DL, l, q, k⟩
  | false => exact ⟨L', DL, l, q, k⟩
def lNever : LTS := fun _ _ _ => False
theorem ls_never : LS X st lNever := PS.imp ps_never fun _ _ _ ⟨_, _, _, q, _⟩ => q
theorem lss_never : LSs X sts lNever := PSs.imp pss_never fun _ _ _ ⟨_, _, _, q, _⟩ => q
/-! targets -/
def hName (i : Nat) : LTG := fun v σ L Q => Q (σ.set i (some v)) L
theorem lg_name (i : Nat) {x : Str} (hN : X.N.Nodup) (hi : X.N[i]? = some x := by rfl) (hx : Loc X.env.scope x := by first | exact Or.inl rfl | exact Or.inr rfl) (hf : X.fn x = true ∨ X.env.scope.names.lookup x = some .local := by first | exact .inl rfl | exact .inr rfl | assumption) : LG X (.Name x pos) (hName i) :=
  PG.imp (pg_name hN hi hx hf) fun _ _ _ _ ⟨_, _, hL, q, k⟩ => k _ _ _ q hL
def hNil : LTGs := fun vs σ L Q => vs = [] ∧ Q σ L
def hCons (t : LTG) (u : LTGs) : LTGs := fun vs σ L Q => ∃ v r, vs = v :: r ∧ t v σ L fun σ' L' => u r σ' L' Q
theorem lgs_nil : LGs X [] hNil := PGs.imp pgs_nil fun _ _ _ _ ⟨_, _, hL, ⟨q1, q2⟩, k⟩ => ⟨q1, k _ _ _ q2 hL⟩
theorem lgs_cons {e : Expr} {es : List Expr} (h1 : LG X e g) (h2 : LGs X es gs) (hs : (assignEach (e :: es) X.env).map (·.2) = assign e X.env :: (assignEach es X.env).map (·.2) := by rfl) : LGs X (e :: es) (hCons g gs) := by
  refine PGs.imp (pgs_cons h1 h2 hs) fun v σ H Q h => ?_
  obtain ⟨L, QL, hL, ⟨v, r, e1, h⟩, k⟩ := h
  exact ⟨v, r, e1, L, _, hL, h, fun σ' L' H' q l => ⟨L', QL, l, q, k⟩⟩
/-- a tuple, a list that is read, by the ledger -/
def IsT (K : PySem.W.Frag) (L : Lg) (a : Addr) (xs : List V) : Prop := ∀ H, Led H L → SqT K H a xs
def IsL (K : PySem.W.Frag) (L : Lg) (a : Addr) (xs : List V) : Prop := ∀ H, Led H L → SqL K H a xs
def hTup (K : PySem.W.Frag) (n : Nat) (t : LTGs) : LTG := fun v σ L Q => ∃ a xs, v = .ref a ∧ (IsT K L a xs ∨ IsL K L a xs) ∧ xs.length = n ∧ t xs σ L Q
theorem lg_tup {es : List Expr} {k : Nat} {n : Nat} (hc : X.calm = true) (h : LGs X es gs) (hn : (assignEach es X.env).length = n := by rfl) (hst : (assignEach es X.env).findIdx? (·.1) = none := by rfl) : LG X (.Tuple es k pos) (hTup X.K n gs) := by
  refine ⟨fun pins s σ H v u Q I r q => ?_⟩
  obtain ⟨L, QL, hL, ⟨a, xs, e1, h1, h2, h3⟩, k⟩ := q
  rcases h1 with h1 | h1
  · exact (pg_tup hc h hn hst).run pins s σ H v u Q I r ⟨a, xs, e1, h1 H hL, h2, L, QL, hL, h3, k⟩
  · exact (pg_lst hc h hn hst).run pins s σ H v u Q I r ⟨a, xs, e1, h1 H hL, h2, L, QL, hL, h3, k⟩
theorem lg_lst {es : List Expr} {k : Nat} {n : Nat} (hc : X.calm = true) (h : LGs X es gs) (hn : (assignEach es X.env).length = n := by rfl) (hst : (assignEach es X.env).findIdx? (·.1) = none := by rfl) : LG X (.Tuple es k pos) (fun v σ L Q => ∃ a xs, v = .ref a ∧ IsL X.K L a xs ∧ xs.length = n ∧ gs xs σ L Q) := by
  refine PG.imp (pg_lst hc h hn hst) fun v σ H Q h => ?_
  obtain ⟨L, QL, hL, ⟨a, xs, e1, h1, h2, h3⟩, k⟩ := h
  exact ⟨a, xs, e1, h1 H hL, h2, L, QL, hL, h3, k⟩
abbrev LTSet := V → V → V → Lg → (Lg → Prop) → Prop
def SetL (X : Cx) (t : LTSet) : Prop := PSet X fun o i v H Q => ∃ L QL, Led H L ∧ t o i v L QL ∧ ∀ L' H', QL L' → Led H' L' → Q H'
def hSub (to ti : LTE) (t : LTSet) : LTG := fun v σ L Q => to σ L fun o L1 => ti σ L1 fun i L2 => t o i v L2 fun L3 => Q σ L3
theorem lg_sub {o i : Expr} {to ti : LTE} {t : LTSet} (ho : LE X o to) (hi : LE X i ti) (hs : SetL X t)
    (ha : ∀ v, assign (.Subscript o i pos) X.env v = (do
      let ov ← holding [v] (eval o X.env)
      let iv ← holding [v, ov] (eval i X.env)
      standAt pos
      holding [v, ov, iv] (setItem ov iv v)
      release [v, ov, iv] []) := by intro _; rfl) : LG X (.Subscript o i pos) (hSub to ti t) := by
  refine PG.imp (pg_sub ho hi hs ha) fun v σ H Q h => ?_
  obtain ⟨L, QL, hL, h, k⟩ := h
  exact ⟨L, _, hL, h, fun x L1 H1 h1 hL1 => ⟨L1, _, hL1, h1, fun y L2 H2 h2 hL2 => ⟨L2, _, hL2, h2, fun L3 H3 h3 hL3 => k _ _ _ h3 hL3⟩⟩⟩
theorem SetL.of {r : TSet} (h : PSet X r) : SetL X (fun o i v L Q => ∀ H, Led H L → r o i v H fun H' => ∃ L', Led H' L' ∧ Q L') := by
  intro pins s σ H o i v ov iv u Q I r1 r2 r3 q
  obtain ⟨L, QL, hL, hd, k⟩ := q
  exact wpAny_mono (h pins s σ H o i v ov iv u _ I r1 r2 r3 (hd H hL)) (fun a s' ⟨H', I', L', l, q⟩ => ⟨H', I', k _ _ q l⟩) fun _ _ z => z
theorem SetL.or {t t' : LTSet} (h : SetL X t) (h' : SetL X t') : SetL X (fun o i v L Q => t o i v L Q ∨ t' o i v L Q) := by
  intro pins s σ H o i v ov iv u Q I r1 r2 r3 q
  obtain ⟨L, QL, hL, hd, k⟩ := q
  rcases hd with hd | hd
  · exact h pins s σ H o i v ov iv u Q I r1 r2 r3 ⟨L, QL, hL, hd, k⟩
  · exact h' pins s σ H o i v ov iv u Q I r1 r2 r3 ⟨L, QL, hL, hd, k⟩
def lAsg (te : LTE) (g : LTG) : LTS := fun D σ L => te σ L fun x L1 => g x σ L1 D.nx
theorem ls_asg {tg e : Expr} (he : LE X e te) (hg : LG X tg g) (hs : swapsWithSole [tg] e pos.line X.env = pure false := by rfl) (hw : swappedStores [tg] e X.env = pure none := by rfl)
    (h1 : (assignEach [tg] X.env).map (·.2) = [assign tg X.env] := by rfl) : LS X (.Assign [tg] e pos) (lAsg te g) := by
  refine PS.imp (ps_asg he hg hs hw h1) fun D σ H h => ?_
  obtain ⟨L, DL, hL, h, k⟩ := h
  exact ⟨L, _, hL, h, fun x L1 H1 h1 hL1 => ⟨L1, DL.nx, hL1, h1, k.nx⟩⟩
theorem ls_set (i : Nat) {x : Str} {pos' : Pos} (hN : X.N.Nodup) (he : LE X e te) (hi : X.N[i]? = some x := by rfl) (hx : Loc X.env.scope x := by first | exact Or.inl rfl | exact Or.inr rfl) (hs : swapsWith e (some (.Name x pos')) pos.line X.env = pure false := by rfl) (hf : X.fn x = true ∨ X.env.scope.names.lookup x = some .local := by first | exact .inl rfl | exact .inr rfl | assumption) :
    LS X (.Assign [.Name x pos'] e pos) (lAsg te (hName i)) := by
  refine PS.imp (ps_set hN hi hx he hs hf) fun D σ H h => ?_
  obtain ⟨L, DL, hL, h, k⟩ := h
  exact ⟨L, _, hL, h, fun x L1 H1 h1 hL1 => k.nx _ _ _ h1 hL1⟩
/-! fields stored -/
/-- the object at x of the ledger gets its field f -/
def SetFL (K : PySem.W.Frag) (f : Str) (x y : V) (L : Lg) (Q : Lg → Prop) : Prop := ∀ H, Led H L → ∃ a C dx fs, x = .ref a ∧ H a = some (.ins C dx fs) ∧ Cls K C ∧ NoAttr K C f ∧ fs.length < 1000 ∧ ∃ L', Led (upd H a (.ins C dx (putF f y fs))) L' ∧ Q L'
def lSetF (K : PySem.W.Frag) (ta tv : LTE) (f : Str) : LTS := fun D σ L => tv σ L fun y L1 => ta σ L1 fun x L2 => SetFL K f x y L2 (D.nx σ)
theorem ls_fld {o value : Expr} {f : Str} {ta tv : LTE} {pos' : Pos} (ha : LE X o ta) (hv : LE X value tv) (hs : swapsWith value (some (.Attribute o f pos')) pos.line X.env = pure false := by rfl) : LS X (.Assign [.Attribute o f pos'] value pos) (lSetF X.K ta tv f) := by
  refine PS.imp (ps_fld ha hv hs) fun D σ H h => ?_
  obtain ⟨L, DL, hL, h, k⟩ := h
  refine ⟨L, _, hL, h, fun y L1 H1 h1 hL1 => ⟨L1, _, hL1, h1, fun x L2 H2 h2 hL2 => ?_⟩⟩
  obtain ⟨a, C, dx, fs, e1, e2, e3, e4, e5, L', l, q⟩ := h2 H2 hL2
  exact ⟨a, C, dx, fs, e1, e2, e3, e4, e5, k.nx _ _ _ q l⟩
end

/-! ### loops -/
/-- what is walked: n turns; while G holds of the ledger, at turn i x comes -/
structure LWk where
  n : Nat
  G : Lg → Prop
  Y : Nat → Lg → V → Lg → Prop
def Sim (J : It) (W : LWk) : Prop := Walk J W.n (fun H => ∃ L, Led H L ∧ W.G L) (fun i H x H' => ∀ L, Led H L → W.G L → ∃ L', Led H' L' ∧ W.Y i L x L')
abbrev LTI := St → Lg → (LWk → Lg → Prop) → Prop
def UpI (t : LTI) : TI := fun σ H R => ∃ L RL, Led H L ∧ t σ L RL ∧ ∀ W L1 H1 J, RL W L1 → Led H1 L1 → Sim J W → R J H1
def LI (X : Cx) (tg iter : Expr) (t : LTI) : Prop := PI X tg iter (UpI t)
section
variable {X : Cx} {tg iter : Expr} {wi wi' : LTI} {g : LTG} {tb : LTS} {pos : Pos}
theorem PI.imp {t t' : TI} (p : PI X tg iter t) (h : ∀ σ H R, t' σ H R → t σ H R) : PI X tg iter t' := ⟨fun pins s σ H R I q => p.run pins s σ H R I (h _ _ _ q)⟩
theorem LI.or (h : LI X tg iter wi) (h' : LI X tg iter wi') : LI X tg iter (fun σ L R => wi σ L R ∨ wi' σ L R) := by
  refine ⟨fun pins s σ H R I q => ?_⟩
  obtain ⟨L, RL, hL, hd, k⟩ := q
  rcases hd with hd | hd
  · exact h.run pins s σ H R I ⟨L, RL, hL, hd, k⟩
  · exact h'.run pins s σ H R I ⟨L, RL, hL, hd, k⟩
def ForR (W : LWk) (g : LTG) (tb : LTS) (D : LEnds) (σ : St) (L : Lg) : Prop := ∃ Pv : Nat → St → Lg → Prop, Wk (Pv 0 σ) L ∧ (∀ i σ L, i ≤ W.n → Pv i σ L → W.G L) ∧
  (∀ i x σ L L', i < W.n → Pv i σ L → W.Y i L x L' → g x σ L' fun σ2 L2 => tb { D with nx := Pv (i + 1), ct := Pv (i + 1), bk := D.nx } σ2 L2) ∧ ∀ σ L, Pv W.n σ L → D.nx σ L
def lFor (wi : LTI) (g : LTG) (tb : LTS) : LTS := fun D σ L => wi σ L fun W L1 => ForR W g tb D σ L1
theorem ls_for {body : List Stmt} (hp : PassesOwn (model X.prog X.w) X.A X.env X.xe) (hc : X.calm = true) (hi : LI X tg iter wi) (hg : LG X tg g) (hb : LSs X body tb) (hs : ∀ x, foldedSetIterable iter X.env x = pure x := by intro _; rfl) : LS X (.For tg iter body [] pos) (lFor wi g tb) := by
  refine PS.imp (ps_for hp hc hi hg hb hs) fun D σ H h => ?_
  obtain ⟨L, DL, hL, h, k⟩ := h
  refine ⟨L, _, hL, h, fun W L1 H1 J h1 hL1 sim => ?_⟩
  obtain ⟨Pv, ⟨L0, l0, p0⟩, hG, ht, hd⟩ := h1
  refine for_it sim (fun i σ H => ∃ L, Led H L ∧ Pv i σ L) ⟨L0, l0 _ hL1, p0⟩ (fun i σ H hi ⟨L, l, p⟩ => ⟨L, l, hG i σ L hi p⟩) ?_ (fun σ H ⟨L, l, p⟩ => k.nx _ _ _ (hd σ L p) l)
  rintro i x σ H2 H3 hi ⟨L2, l2, p2⟩ hy
  obtain ⟨L3, l3, y3⟩ := hy L2 l2 (hG i σ L2 (Nat.le_of_lt hi) p2)
  refine ⟨L3, _, l3, ht i x σ L2 L3 hi p2 y3, fun σ4 L4 H4 q4 l4 => ?_⟩
  exact ⟨L4, _, l4, q4, ⟨fun σ' L' H' q l => ⟨L', l, q⟩, k.rt, k.nx, fun σ' L' H' q l => ⟨L', l, q⟩⟩⟩
/-! what is walked -/
def wkR (lo : Int) (n : Nat) : LWk := ⟨n, fun _ => True, fun i L x L' => L' = L ∧ x = .int (lo + i)⟩
def wkL (K : PySem.W.Frag) (a : Addr) (xs : List V) : LWk := ⟨xs.length, fun L => IsL K L a xs, fun i L x L' => L' = L ∧ xs[i]? = some x⟩
def wkT (K : PySem.W.Frag) (a : Addr) (xs : List V) : LWk := ⟨xs.length, fun L => IsT K L a xs, fun i L x L' => L' = L ∧ xs[i]? = some x⟩
theorem sim_r {lo : Int} {n : Nat} : Sim (Itr lo n) (wkR lo n) := walk_range.mono (fun _ _ => trivial) fun i H x H' hi g y L l _ => by
  obtain ⟨rfl, rfl⟩ := y
  exact ⟨L, l, rfl, rfl⟩
theorem sim_l {K : PySem.W.Frag} {a : Addr} {xs : List V} : Sim (Itl K a) (wkL K a xs) := walk_list.mono (fun H ⟨L, l, h⟩ => h H l) fun i H x H' hi g y L l _ => by
  obtain ⟨rfl, h⟩ := y
  exact ⟨L, l, rfl, h⟩
theorem sim_t {K : PySem.W.Frag} {a : Addr} {xs : List V} : Sim (Itt K a) (wkT K a xs) := walk_tup.mono (fun H ⟨L, l, h⟩ => h H l) fun i H x H' hi g y L l _ => by
  obtain ⟨rfl, h⟩ := y
  exact ⟨L, l, rfl, h⟩
def kRng1 (ta : LTA) : LTI := fun σ L R => ta σ L fun vs L1 => ∃ j : Int, vs = [.int j] ∧ (-(2 ^ 62) ≤ j ∧ j < 2 ^ 62) ∧ R (wkR 0 j.toNat) L1
def kRng2 (ta : LTA) : LTI := fun σ L R => ta σ L fun vs L1 => ∃ i j : Int, vs = [.int i, .int j] ∧ (-(2 ^ 62) ≤ i ∧ i < 2 ^ 62 ∧ -(2 ^ 62) ≤ j ∧ j < 2 ^ 62) ∧ R (wkR i (j - i).toNat) L1
theorem li_range1 {a : Expr} {ta : LTA} {p pos : Pos} (hg : Gl X "range") (hm : X.mg "range" = none) (ha : LA X [a] ta) (hs : starEach [a] X.env = [(false, eval a X.env)] := by rfl) : LI X tg (.Call (.Name "range" p) [a] [] pos) (kRng1 ta) := by
  refine PI.imp (pi_range1 hg hm ha hs) fun σ H R h => ?_
  obtain ⟨L, RL, hL, h, k⟩ := h
  exact ⟨L, _, hL, h, fun vs L1 H1 ⟨j, e, ⟨h1, h2⟩, h3⟩ l => ⟨j, e, h1, h2, k _ _ _ _ h3 l sim_r⟩⟩
theorem li_range2 {a b : Expr} {ta : LTA} {p pos : Pos} (hg : Gl X "range") (hm : X.mg "range" = none) (ha : LA X [a, b] ta) (hs : starEach [a, b] X.env = [(false, eval a X.env), (false, eval b X.env)] := by rfl) (hs2 : starEach [b] X.env = [(false, eval b X.env)] := by rfl) : LI X tg (.Call (.Name "range" p) [a, b] [] pos) (kRng2 ta) := by
  refine PI.imp (pi_range2 hg hm ha hs hs2) fun σ H R h => ?_
  obtain ⟨L, RL, hL, h, k⟩ := h
  exact ⟨L, _, hL, h, fun vs L1 H1 ⟨i, j, e, h1, h3⟩ l => ⟨i, j, e, h1, k _ _ _ _ h3 l sim_r⟩⟩
def kSeq (K : PySem.W.Frag) (tl : LTE) : LTI := fun σ L R => tl σ L fun x L1 => ∃ a xs, x = .ref a ∧ ((IsL K L1 a xs ∧ R (wkL K a xs) L1) ∨ (IsT K L1 a xs ∧ R (wkT K a xs) L1))
def kTup (K : PySem.W.Frag) (tl : LTE) : LTI := fun σ L R => tl σ L fun x L1 => ∃ a xs, x = .ref a ∧ ((IsT K L1 a xs ∧ R (wkT K a xs) L1))
theorem li_list {l : Expr} {tl : LTE} (hl : LE X l tl) : LI X tg l (kSeq X.K tl) := by
  refine ⟨fun pins s σ H R I h => ?_⟩
  obtain ⟨L, RL, hL, h, k⟩ := h
  refine thn (hl.run pins s σ H (fun x H1 => ∃ a xs, x = .ref a ∧ ((SqL X.K H1 a xs ∧ R (Itl X.K a) H1) ∨ (SqT X.K H1 a xs ∧ R (Itt X.K a) H1))) I ⟨L, _, hL, h, fun v L1 H1 ⟨a, xs, e, hd⟩ l => ⟨a, xs, e, hd.imp (fun ⟨h1, h2⟩ => ⟨h1 H1 l, k _ _ _ _ h2 l sim_l⟩) (fun ⟨h1, h2⟩ => ⟨h1 H1 l, k _ _ _ _ h2 l sim_t⟩)⟩⟩) fun v s1 ⟨x, H1, I1, r1, q1⟩ => ?_
  obtain ⟨a, xs, e, hd⟩ := q1
  subst e
  cases r1
  have fr : ∀ b ∈ [s1.heap.objs.size], FpOk X pins H1 b := fun b hb => by
    have e : b = s1.heap.objs.size := by simpa using hb
    subst e
    exact I1.fpOk (Nat.le_refl _) (I1.hok.fresh (Nat.le_refl _))
  rcases hd with ⟨hq, q⟩ | ⟨hq, q⟩
  · obtain ⟨its, rv, p, hz⟩ := I1.list hq
    refine wpAny_pyIter_list p.isList ?_
    exact ⟨s1.heap.objs.size, [s1.heap.objs.size], _, _, H1, rfl, I1.kept (t' := s1.toks) fun b o e => Heap.get?_push_of_some _ e, turn_list a _, ⟨_, Heap.get?_push_size _ rfl, rfl, rfl⟩, fr, q⟩
  · obtain ⟨its, rv, p, hz⟩ := I1.tuple hq
    refine wpAny_pyIter_tuple (show s1.heap.IsTuple a its.toArray from p) ?_
    exact ⟨s1.heap.objs.size, [s1.heap.objs.size], _, _, H1, rfl, I1.kept (t' := s1.toks) fun b o e => Heap.get?_push_of_some _ e, turn_tuple a _, ⟨_, Heap.get?_push_size _ rfl, rfl, rfl⟩, fr, q⟩
theorem li_tup {l : Expr} {tl : LTE} (hl : LE X l tl) : LI X tg l (kTup X.K tl) := by
  refine PI.imp (pi_tup hl) fun σ H R h => ?_
  obtain ⟨L, RL, hL, h, k⟩ := h
  exact ⟨L, _, hL, h, fun v L1 H1 ⟨a, xs, e, h1, h2⟩ l => ⟨a, e, ⟨xs, h1 H1 l⟩, k _ _ _ _ h2 l sim_t⟩⟩
/-! while -/
def lWhile (c : LTT) (tb : LTS) : LTS := fun D σ L => ∃ W : Nat → St → Lg → Prop, Wk (fun L => ∃ m, W m σ L) L ∧ ∀ m σ L, W m σ L →
  c σ L fun b L1 => if b = true then tb { D with nx := fun σ' L' => ∃ m', m' < m ∧ W m' σ' L', ct := fun σ' L' => ∃ m', m' < m ∧ W m' σ' L', bk := D.nx } σ L1 else D.nx σ L1
theorem ls_while {c : Expr} {body : List Stmt} {tc : LTT} (hp : PassesOwn (model X.prog X.w) X.A X.env X.xe) (hc : LT X c tc) (hb : LSs X body tb) : LS X (.While c body [] pos) (lWhile tc tb) := by
  refine PS.imp (ps_while hp hc hb) fun D σ H h => ?_
  obtain ⟨L, DL, hL, ⟨W, ⟨L0, l0, m0, w0⟩, turn⟩, k⟩ := h
  refine ⟨fun m σ H => ∃ L, Led H L ∧ W m σ L, ⟨m0, L0, l0 _ hL, w0⟩, ?_⟩
  rintro m σ1 H1 ⟨L1, l1, w1⟩
  refine ⟨L1, _, l1, turn m σ1 L1 w1, fun b L2 H2 q2 l2 => ?_⟩
  cases b with
  | true =>
    refine ⟨fun σ' H' => ∃ m', m' < m ∧ ∃ L, Led H' L ∧ W m' σ' L, fun σ' H' ⟨m', hm, L, l, w⟩ => ⟨m', hm, L, l, w⟩, ?_⟩
    exact ⟨L2, _, l2, q2, ⟨fun σ' L' H' ⟨m', hm, w⟩ l => ⟨m', hm, L', l, w⟩, k.rt, k.nx, fun σ' L' H' ⟨m', hm, w⟩ l => ⟨m', hm, L', l, w⟩⟩⟩
  | false => exact k.nx _ _ _ q2 l2
end

/-! ### list comprehensions -/
section
variable {X : Cx} {elt tg iter : Expr} {ifs : List Expr} {scope : Scope} {own : List (Str × Nat)} {pos : Pos} {wi : LTI} {g : LTG} {tt : LTT} {te : LTE}
def LTs (X : Cx) (ifs : List Expr) (t : LTT) : Prop := PTs X ifs fun σ H Q => Up (t σ) H Q
theorem PTs.imp {t t' : TT} (p : PTs X ifs t) (h : ∀ σ H Q, t' σ H Q → t σ H Q) : PTs X ifs t' := ⟨fun pins s σ H Q I q => p.run pins s σ H Q I (h _ _ _ q)⟩
def lYes : LTT := fun _ L Q => Q true L
theorem lts_nil : LTs X [] lYes := PTs.imp pts_nil fun _ _ _ ⟨_, _, hL, q, k⟩ => k _ _ _ q hL
theorem lts_one {c : Expr} {t : LTT} (h : LT X c t) : LTs X [c] t := pts_one h
/-- the turns of a comprehension: the new list stands at D, its items so far acc, the other chunks L -/
def LcR (W : LWk) (g : LTG) (tt : LTT) (te : LTE) (vs : List Nat) (σ : St) (D : Addr) (L : Lg) (Q : LVK) : Prop := ∃ Pv : Nat → List V → Lg → Prop, Wk (Pv 0 []) L ∧
  (∀ i acc L, i ≤ W.n → Pv i acc L → W.G ([(D, .lst acc)] :: L)) ∧
  (∀ i acc x L L', i < W.n → Pv i acc L → D ∉ keys L → W.Y i ([(D, .lst acc)] :: L) x L' → g x (wipe σ vs) L' fun σ2 L2 => wipe σ2 vs = wipe σ vs ∧ tt σ2 L2 fun b L3 =>
    if b = true then te σ2 L3 fun y L4 => acc.length < sizeLine ∧ ∃ L5, Lic L4 ([(D, .lst acc)] :: L5) ∧ Pv (i + 1) (acc ++ [y]) L5 else ∃ L5, Lic L3 ([(D, .lst acc)] :: L5) ∧ Pv (i + 1) acc L5) ∧
  ∀ acc L, Pv W.n acc L → D ∉ keys L → Wk (Q (.ref D)) ([(D, .lst acc)] :: L)
def lLc (wi : LTI) (g : LTG) (tt : LTT) (te : LTE) (vs : List Nat) : LTE := fun σ L Q => wi σ L fun W L1 => ∀ D, D ∉ keys L1 → LcR W g tt te vs σ D L1 Q
theorem Led.head_not {H : Hp} {D : Addr} {o : HO} {L : Lg} (h : Led H ([(D, o)] :: L)) : D ∉ keys L := by
  have := h.nd
  rw [keys_cons] at this
  exact (List.nodup_cons.mp this).1
theorem up_lc {vs : List Nat} {σ : St} {H : Hp} {Q : VK} (h : Up (lLc wi g tt te vs σ) H Q) : tLc (UpI wi) (UpG g) (fun σ H Q => Up (tt σ) H Q) (fun σ H Q => Up (te σ) H Q) vs σ H Q := by
  obtain ⟨L, QL, hL, h, k⟩ := h
  refine ⟨L, _, hL, h, fun W L1 H1 J h1 hL1 sim D hD => ?_⟩
  obtain ⟨Pv, ⟨L0, l0, p0⟩, hG, ht, hd⟩ := h1 D (hL1.fresh hD)
  refine lc_it sim (fun i H => ∃ acc L, Led H ([(D, .lst acc)] :: L) ∧ Pv i acc L) ⟨[], L0, (l0 _ hL1).new hD, p0⟩ (fun i H hi ⟨acc, L, l, p⟩ => ⟨_, l, hG i acc L hi p⟩) ?_ ?_
  · rintro i x H2 H3 hi ⟨acc, L2, l2, p2⟩ hy
    obtain ⟨L3, l3, y3⟩ := hy _ l2 (hG i acc L2 (Nat.le_of_lt hi) p2)
    refine ⟨L3, _, l3, ht i acc x L2 L3 hi p2 l2.head_not y3, fun σ4 L4 H4 ⟨q4, r4⟩ l4 => ⟨q4, L4, _, l4, r4, fun b L5 H5 q5 l5 => ?_⟩⟩
    cases b with
    | true =>
      refine ⟨L5, _, l5, q5, fun y L6 H6 ⟨q6, L7, l7, p7⟩ l6 => ?_⟩
      have l8 := l7 _ l6
      refine ⟨acc, l8.get _ List.mem_cons_self _ List.mem_cons_self, q6, acc ++ [y], L7, ?_, p7⟩
      exact Led.put1 (i := 0) (o := .lst acc) l8 rfl
    | false =>
      obtain ⟨L7, l7, p7⟩ := q5
      exact ⟨acc, L7, l7 _ l5, p7⟩
  · rintro H2 ⟨acc, L2, l2, p2⟩
    obtain ⟨L3, l3, q3⟩ := hd acc L2 p2 l2.head_not
    exact k _ _ _ q3 (l3 _ l2)
theorem llc {vs : List Nat} (hc : X.calm = true) (hN : X.N.Nodup) (hi : LI X tg iter wi) (ok : BlkOk X.N X.env.scope scope own)
    (hg : ∀ (s : Shared) (H : Hp) (C : Addr) (cl : List (Str × Addr)) (fp : List Addr), LG (X.blk s H scope (compEnvC scope cl C X.env) fp) tg g) (ht : ∀ (s : Shared) (H : Hp) (C : Addr) (cl : List (Str × Addr)) (fp : List Addr), LTs (X.blk s H scope (compEnvC scope cl C X.env) fp) ifs tt)
    (he : ∀ (s : Shared) (H : Hp) (C : Addr) (cl : List (Str × Addr)) (fp : List Addr), LE (X.blk s H scope (compEnvC scope cl C X.env) fp) elt te) (hs : ∀ x, foldedSetIterable iter X.env x = pure x := by intro _; rfl) :
    (hv : own.map (·.2) = vs := by rfl) → LE X (.ListComp elt [⟨tg, iter, ifs, 0⟩] scope pos) (lLc wi g tt te vs) := fun hv => by
  subst hv
  exact PE.imp (pe_lc hc hN hi ok hg ht he hs) fun _ _ _ h => up_lc h
theorem ls_setLc {vs : List Nat} (i : Nat) {y : Str} {py spos : Pos} (hc : X.calm = true) (hN : X.N.Nodup) (hy : X.N[i]? = some y) (hyl : X.env.scope.names.lookup y = some .local)
    (hsw : swapsWith (.ListComp elt [⟨tg, iter, ifs, 0⟩] scope pos) (some (.Name y py)) spos.line X.env = pure true) (hi : LI X tg iter wi) (ok : BlkOk X.N X.env.scope scope own)
    (hg : ∀ (s : Shared) (H : Hp) (C : Addr) (cl : List (Str × Addr)) (fp : List Addr), LG (X.blk s H scope (compEnvC scope cl C X.env) fp) tg g) (ht : ∀ (s : Shared) (H : Hp) (C : Addr) (cl : List (Str × Addr)) (fp : List Addr), LTs (X.blk s H scope (compEnvC scope cl C X.env) fp) ifs tt)
    (he : ∀ (s : Shared) (H : Hp) (C : Addr) (cl : List (Str × Addr)) (fp : List Addr), LE (X.blk s H scope (compEnvC scope cl C X.env) fp) elt te) (hs : ∀ x, foldedSetIterable iter X.env x = pure x := by intro _; rfl) :
    (hv : own.map (·.2) = vs := by rfl) → LS X (.Assign [.Name y py] (.ListComp elt [⟨tg, iter, ifs, 0⟩] scope pos) spos) (lAsg (lLc wi g tt te vs) (hName i)) := by
  intro hv
  subst hv
  refine PS.imp (ps_setLc hc hN hy hyl hsw hi ok hg ht he hs) fun D σ H h => ?_
  obtain ⟨L, DL, hL, h, k⟩ := h
  exact up_lc (Q := fun v H' => D.nx (σ.set i (some v)) H') ⟨L, _, hL, h, fun v L' H' q l => k.nx _ _ _ q l⟩
end

/-! ### a def keeps its promise -/
section
variable {P : Program} {w : World} {K : PySem.W.Frag} {mg : Str → Option Value} {base : Heap} {x qual : Str} {params : Arguments} {body : List Stmt} {scope : Scope} {dvs : List V} {kws : List (Str × V)} {f : Addr} {fd : FuncData}
/-- no exception leaves it -/
theorem fn_ok {N ps : List Str} {k : Nat} {sp : LSp} (F : FunD K x qual params body scope dvs kws f fd) (S : FnScope N ps scope) (len : ∀ vs L Q E, sp vs L Q E → vs.length = ps.length)
    (hbody : ∀ (cdv : Value) (A : Around) (outer : List Env) (s : Shared) (H : Hp) (E : XK), Room k (A.deeper (envOfC qual scope s.heap.objs.size f cdv)) →
      ∃ t, LSs (cxOf CX0 P w K mg base N qual scope f cdv A outer s H E).nox body t ∧ ∀ vs L Q EL, sp vs L Q EL → t ⟨fun _ => Wk (Q .non), Q, fun _ _ => False, fun _ _ => False⟩ (start N vs) L) : FnOk P w K mg base CX0 (k + 1) f fd ps (UpP sp) := by
  refine F.ok S (UpP.len len) fun cdv A outer s H vs Q E hr h => ?_
  obtain ⟨t, ht, hq⟩ := hbody cdv A outer s H E hr
  obtain ⟨L, QL, EL, hL, hs, k1, k2⟩ := h
  exact ⟨_, PSs.nox ht, L, _, hL, hq vs L QL EL hs, ⟨fun σ' L' H' ⟨L2, l2, q⟩ l => k1 _ _ _ q (l2 _ l), fun v L' H' q l => k1 _ _ _ q l, fun _ _ _ z => z.elim, fun _ _ _ z => z.elim⟩⟩
end
end VM

end

section
namespace VM
open PySem PySem.Spec L2
open PyProof.Rows hiding St

/-! ### what stands where -/
def At (L : Lg) (p : Addr) (o : HO) : Prop := ∀ H, Led H L → H p = some o
theorem At.hd1 {p : Addr} {o : HO} {L : Lg} : At ([(p, o)] :: L) p o := fun _ h => h.get _ List.mem_cons_self _ List.mem_cons_self
theorem At.hd {c : Chunk} {p : Addr} {o : HO} {L : Lg} (h : (p, o) ∈ c) : At (c :: L) p o := fun _ l => l.get _ List.mem_cons_self _ h
theorem At.tl {c : Chunk} {p : Addr} {o : HO} {L : Lg} (h : At L p o) : At (c :: L) p o := fun H l => h H (Lic.tail H l)
theorem At.mem {c : Chunk} {p : Addr} {o : HO} {L : Lg} (h : c ∈ L) (hx : (p, o) ∈ c) : At L p o := fun _ l => l.get _ h _ hx
theorem At.one {p : Addr} {o : HO} {L : Lg} (h : [(p, o)] ∈ L) : At L p o := At.mem h List.mem_cons_self
theorem IsL.at_ {K : PySem.W.Frag} {L : Lg} {p : Addr} {xs : List V} (h : At L p (.lst xs)) : IsL K L p xs := fun H l => .inl (.inl (h H l))
theorem IsT.at_ {K : PySem.W.Frag} {L : Lg} {p : Addr} {xs : List V} (h : At L p (.tup xs)) : IsT K L p xs := fun H l => .inl (.inl (h H l))
theorem IsL.frz {K : PySem.W.Frag} {L : Lg} {p : Addr} {o : Obj} {xs : List V} (h : At L p (.frz o (.lst xs))) : IsL K L p xs := fun H l => .inl (.inr ⟨o, h H l⟩)
theorem IsL.tl {K : PySem.W.Frag} {c : Chunk} {L : Lg} {p : Addr} {xs : List V} (h : IsL K L p xs) : IsL K (c :: L) p xs := fun H l => h H (Lic.tail H l)
theorem IsT.tl {K : PySem.W.Frag} {c : Chunk} {L : Lg} {p : Addr} {xs : List V} (h : IsT K L p xs) : IsT K (c :: L) p xs := fun H l => h H (Lic.tail H l)
/-- the script: a list of ints that is read, whatever it is to the ledger -/
def Scr (K : PySem.W.Frag) (c : Chunk) (p : Addr) (ns : List Int) : Prop := ∀ H, Led H [c] → SqL K H p (ns.map V.int)
theorem IsL.scr {K : PySem.W.Frag} {c : Chunk} {L : Lg} {p : Addr} {ns : List Int} (h : Scr K c p ns) (hm : c ∈ L) : IsL K L p (ns.map V.int) := fun H l => h H (by
  obtain ⟨i, hi⟩ := List.getElem?_of_mem hm
  have := Lic.pull i hi H l
  exact Lic.sublist (List.Sublist.cons_cons c (List.nil_sublist _)) H this)
/-- a cell is written -/
inductive Wr (p : Addr) (o o' : HO) : Lg → Lg → Prop
  | hd {A B : Chunk} {L : Lg} : Wr p o o' ((A ++ (p, o) :: B) :: L) ((A ++ (p, o') :: B) :: L)
  | tl {c : Chunk} {L L' : Lg} (h : Wr p o o' L L') : Wr p o o' (c :: L) (c :: L')
theorem Wr.hd1 {p : Addr} {o o' : HO} {L : Lg} : Wr p o o' ([(p, o)] :: L) ([(p, o')] :: L) := Wr.hd (A := []) (B := [])
theorem Wr.ix {p : Addr} {o o' : HO} {L L' : Lg} (h : Wr p o o' L L') : ∃ i A B, L[i]? = some (A ++ (p, o) :: B) ∧ L' = L.set i (A ++ (p, o') :: B) := by
  induction h with
  | hd => exact ⟨0, _, _, rfl, rfl⟩
  | tl _ ih =>
    obtain ⟨i, A, B, h1, h2⟩ := ih
    exact ⟨i + 1, A, B, h1, by rw [h2]; rfl⟩
theorem Wr.led {p : Addr} {o o' : HO} {L L' : Lg} (h : Wr p o o' L L') {H : Hp} (l : Led H L) : Led (upd H p o') L' := by
  obtain ⟨i, A, B, h1, h2⟩ := h.ix
  rw [h2]
  exact l.put h1
theorem Wr.at_ {p : Addr} {o o' : HO} {L L' : Lg} (h : Wr p o o' L L') : At L p o := by
  obtain ⟨i, A, B, h1, h2⟩ := h.ix
  exact At.mem (List.mem_of_getElem? h1) (by simp)
/-- by the place -/
theorem Wr.by_ {p : Addr} {o o' : HO} {L : Lg} : ∀ (i : Nat) {A B : Chunk}, L[i]? = some (A ++ (p, o) :: B) → Wr p o o' L (L.set i (A ++ (p, o') :: B)) := by
  induction L with
  | nil => intro i A B h; simp at h
  | cons c L ih =>
    intro i A B h
    cases i with
    | zero =>
      simp only [List.getElem?_cons_zero, Option.some.injEq] at h
      subst h
      exact Wr.hd
    | succ i =>
      simp only [List.getElem?_cons_succ] at h
      exact Wr.tl (ih i h)
/-! slots -/
inductive SetAt (v : V) : St → Nat → St → Prop
  | hd {x : Option V} {σ : St} : SetAt v (x :: σ) 0 (some v :: σ)
  | tl {x : Option V} {σ σ' : St} {i : Nat} (h : SetAt v σ i σ') : SetAt v (x :: σ) (i + 1) (x :: σ')
theorem SetAt.eq {v : V} {σ σ' : St} {i : Nat} (h : SetAt v σ i σ') : σ.set i (some v) = σ' := by
  induction h with
  | hd => rfl
  | tl _ ih => rw [List.set_cons_succ, ih]

/-! ### steps of the structure -/
section
variable {σ σ' : St} {L L' : Lg} {Q : LVK} {i : Nat} {v : V} {ta tb te : LTE} {tr : LTA} {t u : LTT} {K : PySem.W.Frag}
theorem s_var (h : σ[i]? = some (some v)) (k : Q v L) : lVar i σ L Q := ⟨v, h, k⟩
theorem s_c (k : Q v L) : lC v σ L Q := k
theorem s_op {r : LR2} (k : ta σ L fun x L1 => tb σ L1 fun y L2 => r x y L2 Q) : lOp r ta tb σ L Q := k
theorem s_un {r : LR1} (k : ta σ L fun x L1 => r x L1 Q) : lUn r ta σ L Q := k
theorem s_test {Q : Bool → Lg → Prop} (k : te σ L (BlK Q)) : lTest te σ L Q := k
theorem s_blk {Q : Bool → Lg → Prop} {b : Bool} (k : Q b L) : BlK Q (.bl b) L := ⟨b, rfl, k⟩
theorem s_intk {Q : Int → Lg → Prop} {b : Int} (k : Q b L) : IntK Q (.int b) L := ⟨b, rfl, k⟩
theorem s_not {Q : Bool → Lg → Prop} (k : t σ L fun c L1 => Q (!c) L1) : lNot t σ L Q := k
theorem s_and {Q : Bool → Lg → Prop} (k : t σ L fun c L1 => if c = true then u σ L1 Q else Q false L1) : lAnd t u σ L Q := k
theorem s_or {Q : Bool → Lg → Prop} (k : t σ L fun c L1 => if c = true then Q true L1 else u σ L1 Q) : lOr t u σ L Q := k
theorem s_andV (k : ta σ L (BlK fun c L1 => if c = true then tb σ L1 Q else Q (.bl false) L1)) : lAndV ta tb σ L Q := k
theorem s_orV (k : ta σ L (BlK fun c L1 => if c = true then Q (.bl true) L1 else tb σ L1 Q)) : lOrV ta tb σ L Q := k
theorem s_notV (k : ta σ L (BlK fun c L1 => Q (.bl (!c)) L1)) : lNotV ta σ L Q := k
theorem s_ifE (k : t σ L fun c L1 => if c = true then ta σ L1 Q else tb σ L1 Q) : lIfE t ta tb σ L Q := k
theorem s_nil {Q : List V → Lg → Prop} (k : Q [] L) : lNil σ L Q := k
theorem s_cons {Q : List V → Lg → Prop} (k : te σ L fun x L1 => tr σ L1 fun xs L2 => Q (x :: xs) L2) : lCons te tr σ L Q := k
def NewK (f : List V → HO) (Q : LVK) : List V → Lg → Prop := fun xs L1 => xs.length ≤ sizeLine ∧ ∀ p, p ∉ keys L1 → Q (.ref p) ([(p, f xs)] :: L1)
theorem s_tup (k : tr σ L (NewK .tup Q)) : lTup tr σ L Q := k
theorem s_lst (k : tr σ L (NewK .lst Q)) : lLst tr σ L Q := k
theorem s_new {f : List V → HO} {xs : List V} (h : xs.length ≤ sizeLine) (k : ∀ p, Q (.ref p) ([(p, f xs)] :: L)) : NewK f Q xs L := ⟨h, fun p _ => k p⟩
theorem s_sl {r : V → Option Int → Option Int → Lg → LVK → Prop} {tl th : LTO} (k : te σ L fun x L1 => tl σ L1 fun l L2 => th σ L2 fun u L3 => r x l u L3 Q) : lSl r te tl th σ L Q := k
theorem s_nopart {Q : Option Int → Lg → Prop} (k : Q none L) : lNoPart σ L Q := k
theorem s_part {Q : Option Int → Lg → Prop} (k : te σ L (IntK fun i L1 => Q (some i) L1)) : lPart te σ L Q := k
theorem s_cb {r : LRC} (k : tr σ L fun vs L1 => r vs L1 Q) : lCB r tr σ L Q := k
theorem s_bm0 {T : String} {r : V → LRC} (k : te σ L fun x L1 => TyL K T x L1 ∧ r x [] L1 Q) : lBM0 K T r te σ L Q := k
theorem s_bm {T : String} {r : V → LRC} (k : te σ L fun x L1 => TyL K T x L1 ∧ tr σ L1 fun xs L2 => r x xs L2 Q) : lBM K T r te tr σ L Q := k
theorem s_fld {f : Str} (k : te σ L fun x L1 => FldL K f x L1 Q) : lFld K te f σ L Q := k
theorem s_call {sp : LSp} {dvs : List V} {E : LXK} (k : tr σ L fun vs L1 => sp (vs ++ dvs) L1 Q E) : lCall sp dvs E tr σ L Q := k
theorem s_meth {C : Addr} {m : Str} {sp : LSp} {dvs : List V} {E : LXK} (k : te σ L fun x L1 => ObjL C m x L1 ∧ tr σ L1 fun vs L2 => sp (x :: (vs ++ dvs)) L2 Q E) : lMeth C m sp dvs E te tr σ L Q := k
def MakeK (C : Addr) (sp : LSp) (dvs : List V) (E : LXK) (Q : LVK) : List V → Lg → Prop := fun vs L1 => ∀ x dx, x ∉ keys L1 → sp (.ref x :: (vs ++ dvs)) ([(x, .ins C dx [])] :: L1) (fun v L2 => v = .non ∧ Q (.ref x) L2) E
theorem s_make {C : Addr} {sp : LSp} {dvs : List V} {E : LXK} (k : tr σ L (MakeK C sp dvs E Q)) : lMake C sp dvs E tr σ L Q := k
theorem s_tru {r : V → Lg → (Bool → Lg → Prop) → Prop} {Q : Bool → Lg → Prop} (k : te σ L fun x L1 => r x L1 Q) : lTru r te σ L Q := k
/-! statements -/
variable {D : LEnds} {s1 s2 : LTS} {g : LTG} {gs : LTGs}
variable {n0 : St → Lg → Prop} {r0 : LVK} {b0 c0 : St → Lg → Prop}
theorem s_seq (k : s1 ⟨fun σ' => Wk (s2 ⟨n0, r0, b0, c0⟩ σ'), fun v => Wk (r0 v), fun σ => Wk (b0 σ), fun σ => Wk (c0 σ)⟩ σ L) : lSeq s1 s2 ⟨n0, r0, b0, c0⟩ σ L := k
theorem s_last (k : s1 ⟨fun σ => Wk (n0 σ), fun v => Wk (r0 v), fun σ => Wk (b0 σ), fun σ => Wk (c0 σ)⟩ σ L) : lLast s1 ⟨n0, r0, b0, c0⟩ σ L := k
theorem s_never (k : False) : lNever D σ L := k
theorem s_next (k : n0 σ L) : lNext ⟨n0, r0, b0, c0⟩ σ L := k
theorem s_drop (k : te σ L fun _ L1 => n0 σ L1) : lDrop te ⟨n0, r0, b0, c0⟩ σ L := k
theorem s_ret (k : te σ L r0) : lRet te ⟨n0, r0, b0, c0⟩ σ L := k
theorem s_retN (k : r0 .non L) : lRetN ⟨n0, r0, b0, c0⟩ σ L := k
theorem s_break (k : b0 σ L) : lBreak ⟨n0, r0, b0, c0⟩ σ L := k
theorem s_cont (k : c0 σ L) : lCont ⟨n0, r0, b0, c0⟩ σ L := k
theorem s_if (k : t σ L fun b L1 => if b = true then s1 D σ L1 else s2 D σ L1) : lIf t s1 s2 D σ L := k
theorem s_asg (k : te σ L fun x L1 => g x σ L1 n0) : lAsg te g ⟨n0, r0, b0, c0⟩ σ L := k
theorem s_name {Q : St → Lg → Prop} (h : SetAt v σ i σ') (k : Q σ' L) : hName i v σ L Q := by
  show Q (σ.set i (some v)) L
  rw [h.eq]
  exact k
theorem s_hnil {Q : St → Lg → Prop} (k : Q σ L) : hNil [] σ L Q := ⟨rfl, k⟩
theorem s_hcons {vs : List V} {Q : St → Lg → Prop} (k : g v σ L fun σ' L' => gs vs σ' L' Q) : hCons g gs (v :: vs) σ L Q := ⟨v, vs, rfl, k⟩
theorem s_htup {n : Nat} {p : Addr} {xs : List V} {Q : St → Lg → Prop} (h : IsT K L p xs) (hl : xs.length = n) (k : gs xs σ L Q) : hTup K n gs (.ref p) σ L Q := ⟨p, xs, rfl, .inl h, hl, k⟩
theorem s_hlst {n : Nat} {p : Addr} {xs : List V} {Q : St → Lg → Prop} (h : IsL K L p xs) (hl : xs.length = n) (k : gs xs σ L Q) : hTup K n gs (.ref p) σ L Q := ⟨p, xs, rfl, .inr h, hl, k⟩
theorem s_hsub {r : LTSet} {Q : St → Lg → Prop} (k : ta σ L fun o L1 => tb σ L1 fun i L2 => r o i v L2 fun L3 => Q σ L3) : hSub ta tb r v σ L Q := k
theorem s_setf {f : Str} {tv : LTE} (k : tv σ L fun y L1 => ta σ L1 fun x L2 => SetFL K f x y L2 (n0 σ)) : lSetF K ta tv f ⟨n0, r0, b0, c0⟩ σ L := k
theorem s_wk {P : Lg → Prop} (k : P L) : Wk P L := .go k
theorem s_for {wi : LTI} (k : wi σ L fun W L1 => ForR W g s1 D σ L1) : lFor wi g s1 D σ L := k
/-! ifs -/
theorem s_ite {c A B : Prop} [Decidable c] (h1 : c → A) (h2 : ¬ c → B) : if c then A else B := ite2 h1 h2
theorem s_iteT {A B : Prop} (h : A) : if true = true then A else B := iteT h
theorem s_iteF {A B : Prop} (h : B) : if false = true then A else B := iteF h
theorem s_iteD {c A B : Prop} [Decidable c] (h1 : c → A) (h2 : ¬ c → B) : if decide c = true then A else B := by
  by_cases h : c
  · rw [decide_eq_true h, if_pos rfl]; exact h1 h
  · rw [decide_eq_false h, if_neg Bool.false_ne_true]; exact h2 h
theorem s_iteN {c A B : Prop} [Decidable c] (h1 : c → B) (h2 : ¬ c → A) : if (!decide c) = true then A else B := by
  by_cases h : c
  · rw [decide_eq_true h]; exact iteF (h1 h)
  · rw [decide_eq_false h]; exact iteT (h2 h)
theorem s_iteNb {b : Bool} {A B : Prop} (h : if b = true then B else A) : if (!b) = true then A else B := by
  cases b
  · exact iteT (by simpa using h)
  · exact iteF (by simpa using h)
theorem s_iteb {b : Bool} {A B : Prop} (h1 : b = true → A) (h2 : b = false → B) : if b = true then A else B := by
  cases b
  · exact iteF (h2 rfl)
  · exact iteT (h1 rfl)
end

/-! ### the operations -/
/-- two ints in, under C, a value out -/
def iI (C : Int → Int → Prop) (g : Int → Int → V) : LR2 := fun x y L Q => ∃ i j, x = .int i ∧ y = .int j ∧ C i j ∧ Q (g i j) L
def iI0 (g : Int → Int → V) : LR2 := fun x y L Q => ∃ i j, x = .int i ∧ y = .int j ∧ Q (g i j) L
section
variable {X : Cx} {f : Value → Value → Sem Value} {C : Int → Int → Prop} {g : Int → Int → V}
theorem OpL.int (h : OpR X f (rI C g)) : OpL X f (iI C g) := by
  intro pins s σ H x y v u Q I rx ry q
  obtain ⟨L, QL, hL, ⟨i, j, e1, e2, hc, hq⟩, k⟩ := q
  exact h pins s σ H x y v u Q I rx ry ⟨i, j, e1, e2, hc, k _ _ _ hq hL⟩
theorem OpL.int0 (h : OpR X f (rI0 g)) : OpL X f (iI0 g) := by
  intro pins s σ H x y v u Q I rx ry q
  obtain ⟨L, QL, hL, ⟨i, j, e1, e2, hq⟩, k⟩ := q
  exact h pins s σ H x y v u Q I rx ry ⟨i, j, e1, e2, k _ _ _ hq hL⟩
end
/-- two lists glued -/
def lCat : LR2 := fun x y L Q => ∃ l b xs zs, x = .ref l ∧ y = .ref b ∧ At L l (.lst xs) ∧ At L b (.lst zs) ∧ xs.length + zs.length ≤ sizeLine ∧ ∀ p, p ∉ keys L → Q (.ref p) ([(p, .lst (xs ++ zs))] :: L)
def lCatT (K : PySem.W.Frag) : LR2 := fun x y L Q => ∃ l b xs zs, x = .ref l ∧ y = .ref b ∧ IsT K L l xs ∧ IsT K L b zs ∧ xs ≠ [] ∧ zs ≠ [] ∧ xs.length + zs.length ≤ sizeLine ∧ ∀ p, p ∉ keys L → Q (.ref p) ([(p, .tup (xs ++ zs))] :: L)
def lCatS : LR2 := fun x y L Q => ∃ i j, x = .str i ∧ y = .str j ∧ i.length + j.length ≤ sizeLine ∧ Q (.str (i ++ j)) L
def gAdd (K : PySem.W.Frag) : LR2 := fun x y L Q => iI0 (fun i j => .int (i + j)) x y L Q ∨ lCat x y L Q ∨ lCatT K x y L Q ∨ lCatS x y L Q
abbrev gSub : LR2 := iI0 fun i j => .int (i - j)
def CMulG (i j : Int) : Prop := CMul i j ∨ CMulW i j
def lRep : LR2 := fun x y L Q => ∃ l k xs, x = .ref l ∧ y = .int k ∧ At L l (.lst xs) ∧ -(2 ^ 63) ≤ k ∧ k < 2 ^ 63 ∧ xs.length * k.toNat ≤ sizeLine ∧ ∀ p, p ∉ keys L → Q (.ref p) ([(p, .lst (List.replicate k.toNat xs).flatten)] :: L)
def gMul : LR2 := fun x y L Q => iI CMulG (fun i j => .int (i * j)) x y L Q ∨ lRep x y L Q
abbrev gDiv : LR2 := iI CDivW fun i j => .int (i / j)
abbrev gMod : LR2 := iI (fun _ j => 0 < j) fun i j => .int (i % j)
abbrev gPow : LR2 := iI CPow fun i j => .int (i ^ j.toNat)
abbrev gShl : LR2 := iI CPow fun i j => .int (i * 2 ^ j.toNat)
abbrev gShr : LR2 := iI (fun _ j => 0 ≤ j) fun i j => .int (i / 2 ^ j.toNat)
abbrev gAnd : LR2 := iI0 fun i j => .int (Builtin.bitAnd i j)
abbrev gOr : LR2 := iI0 fun i j => .int (Builtin.bitOr i j)
abbrev gXor : LR2 := iI0 fun i j => .int (Builtin.bitXor i j)
abbrev gLt : LR2 := iI0 fun i j => .bl (decide (i < j))
abbrev gLe : LR2 := iI0 fun i j => .bl (decide (i ≤ j))
abbrev gGt : LR2 := iI0 fun i j => .bl (decide (j < i))
abbrev gGe : LR2 := iI0 fun i j => .bl (decide (j ≤ i))
/-- what a value is as data, by the ledger -/
def DpL (K : PySem.W.Frag) (L : Lg) (v : V) (d : PyData) : Prop := ∀ H, Led H L → Dp K H v d
def lEqS : LR2 := fun x y L Q => scal x y = true ∧ Q (.bl (decide (x = y))) L
def lNeS : LR2 := fun x y L Q => scal x y = true ∧ Q (.bl (!decide (x = y))) L
def lEqD (K : PySem.W.Frag) : LR2 := fun x y L Q => ∃ d e, DpL K L x d ∧ DpL K L y e ∧ SeqAt.shaped d = true ∧ SeqAt.shaped e = true ∧ Q (.bl (PyData.eqv d e)) L
def lNeD (K : PySem.W.Frag) : LR2 := fun x y L Q => ∃ d e, DpL K L x d ∧ DpL K L y e ∧ SeqAt.shaped d = true ∧ SeqAt.shaped e = true ∧ Q (.bl (!PyData.eqv d e)) L
def gEq (K : PySem.W.Frag) : LR2 := fun x y L Q => lEqS x y L Q ∨ lEqD K x y L Q
def gNe (K : PySem.W.Frag) : LR2 := fun x y L Q => lNeS x y L Q ∨ lNeD K x y L Q
def gIs : LR2 := fun x y L Q => y = .non ∧ Q (.bl (decide (x = .non))) L
def gIsN : LR2 := fun x y L Q => y = .non ∧ Q (.bl (!decide (x = .non))) L
/-- what the dict at a holds at y -/
def DGetL (L : Lg) (a : Addr) (y : V) (r : Option V) : Prop := ∀ H, Led H L → DGet H a y r
def lInSeq (K : PySem.W.Frag) (neg : Bool) : LR2 := fun x y L Q => ∃ p xs, y = .ref p ∧ (IsL K L p xs ∨ IsT K L p xs) ∧ flatV x = true ∧ xs.all flatV = true ∧ Q (.bl (if neg then !inV x xs else inV x xs)) L
def lInD (neg : Bool) : LR2 := fun x y L Q => ∃ p r, y = .ref p ∧ DGetL L p x r ∧ Q (.bl (if neg then !r.isSome else r.isSome)) L
def gIn (K : PySem.W.Frag) (neg : Bool) : LR2 := fun x y L Q => lInSeq K neg x y L Q ∨ lInD neg x y L Q
def lIxL (K : PySem.W.Frag) : LR2 := fun x y L Q => ∃ p xs i v, x = .ref p ∧ y = .int i ∧ IsL K L p xs ∧ atI xs i = some v ∧ Q v L
def lIxT (K : PySem.W.Frag) : LR2 := fun x y L Q => ∃ p xs i v, x = .ref p ∧ y = .int i ∧ IsT K L p xs ∧ atI xs i = some v ∧ Q v L
def lIxD : LR2 := fun x y L Q => ∃ p v, x = .ref p ∧ DGetL L p y (some v) ∧ Q v L
def gIx (K : PySem.W.Frag) : LR2 := fun x y L Q => lIxL K x y L Q ∨ lIxT K x y L Q ∨ lIxD x y L Q
def lSlL (K : PySem.W.Frag) : V → Option Int → Option Int → Lg → LVK → Prop := fun x lo hi L Q => ∃ a xs, x = .ref a ∧ IsL K L a xs ∧ ∀ p, p ∉ keys L → Q (.ref p) ([(p, .lst (cutV xs lo hi))] :: L)
def lSlT (K : PySem.W.Frag) : V → Option Int → Option Int → Lg → LVK → Prop := fun x lo hi L Q => ∃ a xs, x = .ref a ∧ IsT K L a xs ∧ ¬ (HT.sIx xs.length 0 lo = 0 ∧ HT.sIx xs.length xs.length hi = xs.length) ∧ ∀ p, p ∉ keys L → Q (.ref p) ([(p, .tup (cutV xs lo hi))] :: L)
def gSl (K : PySem.W.Frag) : V → Option Int → Option Int → Lg → LVK → Prop := fun x lo hi L Q => lSlL K x lo hi L Q ∨ lSlT K x lo hi L Q
def lSetL : LTSet := fun o i v L Q => ∃ p xs k j L', o = .ref p ∧ i = .int k ∧ ixN xs.length k = some j ∧ Wr p (.lst xs) (.lst (xs.set j v)) L L' ∧ Q L'
def lSetD : LTSet := fun o i v L Q => ∃ p kvs k L', o = .ref p ∧ i = kV k ∧ kvs.length < sizeLine ∧ Wr p (.dK kvs) (.dK (putK kvs k v)) L L' ∧ Q L'
def gSet : LTSet := fun o i v L Q => lSetL o i v L Q ∨ lSetD o i v L Q

section
variable {X : Cx}
theorem up_int {C : Int → Int → Prop} {g : Int → Int → V} {x y : V} {H : Hp} {Q : VK} (h : Up (iI C g x y) H Q) : rI C g x y H Q := by
  obtain ⟨L, QL, hL, ⟨i, j, e1, e2, hc, hq⟩, k⟩ := h
  exact ⟨i, j, e1, e2, hc, k _ _ _ hq hL⟩
theorem OpR.imp {f : Value → Value → Sem Value} {r r' : R2} (h : OpR X f r) (hi : ∀ x y H Q, r' x y H Q → r x y H Q) : OpR X f r' := fun pins s σ H x y v u Q I rx ry q => h pins s σ H x y v u Q I rx ry (hi _ _ _ _ q)
theorem lo_cat : OpL X (binaryOp .Add) lCat := OpR.imp op_cat fun x y H Q h => by
  obtain ⟨L, QL, hL, ⟨l, b, xs, zs, e1, e2, h1, h2, h3, hq⟩, k⟩ := h
  exact ⟨l, b, xs, zs, e1, e2, h1 H hL, h2 H hL, h3, fun p hp => k _ _ _ (hq p (hL.fresh hp)) (hL.new hp)⟩
theorem lo_catT : OpL X (binaryOp .Add) (lCatT X.K) := OpR.imp op_catT fun x y H Q h => by
  obtain ⟨L, QL, hL, ⟨l, b, xs, zs, e1, e2, h1, h2, h3, h4, h5, hq⟩, k⟩ := h
  exact ⟨l, b, xs, zs, e1, e2, h1 H hL, h2 H hL, h3, h5, fun z => absurd z h4, fun _ p hp => k _ _ _ (hq p (hL.fresh hp)) (hL.new hp)⟩
theorem lo_catS : OpL X (binaryOp .Add) lCatS := OpR.imp op_add_str fun x y H Q h => by
  obtain ⟨L, QL, hL, ⟨l, b, e1, e2, h1, hq⟩, k⟩ := h
  exact ⟨l, b, e1, e2, h1, k _ _ _ hq hL⟩
theorem lo_add : OpL X (binaryOp .Add) (gAdd X.K) := (OpL.int0 op_add).or (lo_cat.or (lo_catT.or lo_catS))
theorem lo_sub : OpL X (binaryOp .Sub) gSub := OpL.int0 op_sub
theorem lo_rep : OpL X (binaryOp .Mult) lRep := OpR.imp op_rep fun x y H Q h => by
  obtain ⟨L, QL, hL, ⟨l, b, xs, e1, e2, h1, h2, h3, h4, hq⟩, k⟩ := h
  exact ⟨l, b, xs, e1, e2, h1 H hL, h2, h3, h4, fun p hp => k _ _ _ (hq p (hL.fresh hp)) (hL.new hp)⟩
theorem lo_mulI : OpL X (binaryOp .Mult) (iI CMulG fun i j => .int (i * j)) := by
  intro pins s σ H x y v u Q I rx ry q
  obtain ⟨L, QL, hL, ⟨i, j, e1, e2, hc, hq⟩, k⟩ := q
  rcases hc with hc | hc
  · exact op_mul pins s σ H x y v u Q I rx ry ⟨i, j, e1, e2, hc, k _ _ _ hq hL⟩
  · exact op_mulW pins s σ H x y v u Q I rx ry ⟨i, j, e1, e2, hc, k _ _ _ hq hL⟩
theorem lo_mul : OpL X (binaryOp .Mult) gMul := lo_mulI.or lo_rep
theorem lo_div : OpL X (binaryOp .FloorDiv) gDiv := OpL.int op_fdivW
theorem lo_mod : OpL X (binaryOp .Mod) gMod := OpL.int op_mod
theorem lo_pow : OpL X (binaryOp .Pow) gPow := OpL.int op_pow
theorem lo_shl : OpL X (binaryOp .LShift) gShl := OpL.int op_shl
theorem lo_shr : OpL X (binaryOp .RShift) gShr := OpL.int op_shr
theorem lo_and : OpL X (binaryOp .BitAnd) gAnd := OpL.int0 op_and
theorem lo_or : OpL X (binaryOp .BitOr) gOr := OpL.int0 op_or
theorem lo_xor : OpL X (binaryOp .BitXor) gXor := OpL.int0 op_xor
theorem lo_lt : OpL X (compareOp .Lt) gLt := OpL.int0 op_lt
theorem lo_le : OpL X (compareOp .LtE) gLe := OpL.int0 op_le
theorem lo_gt : OpL X (compareOp .Gt) gGt := OpL.int0 op_gt
theorem lo_ge : OpL X (compareOp .GtE) gGe := OpL.int0 op_ge
theorem lo_eq (hu : X.A.units + 64 < cLine) : OpL X (compareOp .Eq) (gEq X.K) :=
  OpL.or (r := lEqS) (r' := lEqD X.K) (OpR.imp op_eq fun x y H Q ⟨L, QL, hL, ⟨h1, h2⟩, k⟩ => ⟨h1, k _ _ _ h2 hL⟩)
    (OpR.imp (op_eqD hu) fun x y H Q ⟨L, QL, hL, ⟨d, e, h1, h2, h3, h4, h5⟩, k⟩ => ⟨d, e, h1 H hL, h2 H hL, h3, h4, k _ _ _ h5 hL⟩)
theorem lo_ne (hu : X.A.units + 64 < cLine) : OpL X (compareOp .NotEq) (gNe X.K) :=
  OpL.or (r := lNeS) (r' := lNeD X.K) (OpR.imp op_ne fun x y H Q ⟨L, QL, hL, ⟨h1, h2⟩, k⟩ => ⟨h1, k _ _ _ h2 hL⟩)
    (OpR.imp (op_neD hu) fun x y H Q ⟨L, QL, hL, ⟨d, e, h1, h2, h3, h4, h5⟩, k⟩ => ⟨d, e, h1 H hL, h2 H hL, h3, h4, k _ _ _ h5 hL⟩)
theorem lo_is : OpL X (compareOp .Is) gIs := OpR.imp op_isN fun x y H Q ⟨L, QL, hL, ⟨h1, h2⟩, k⟩ => ⟨h1, k _ _ _ h2 hL⟩
theorem lo_isN : OpL X (compareOp .IsNot) gIsN := OpR.imp op_notN fun x y H Q ⟨L, QL, hL, ⟨h1, h2⟩, k⟩ => ⟨h1, k _ _ _ h2 hL⟩
theorem lo_inSeq : OpL X (compareOp .In) (lInSeq X.K false) := OpR.imp op_in_seq fun x y H Q ⟨L, QL, hL, ⟨p, xs, e, h, h1, h2, h3⟩, k⟩ => ⟨p, xs, e, h.imp (fun h => h H hL) (fun h => h H hL), h1, h2, k _ _ _ h3 hL⟩
theorem lo_notInSeq : OpL X (compareOp .NotIn) (lInSeq X.K true) := OpR.imp op_notIn_seq fun x y H Q ⟨L, QL, hL, ⟨p, xs, e, h, h1, h2, h3⟩, k⟩ => ⟨p, xs, e, h.imp (fun h => h H hL) (fun h => h H hL), h1, h2, k _ _ _ h3 hL⟩
theorem op_inD (hu : X.A.units + 1 < cLine) : OpR X (compareOp .In) (fun x y H Q => ∃ p r, y = .ref p ∧ DGet H p x r ∧ Q (.bl r.isSome) H) := by
  intro pins s σ H x y v u Q I rx ry ⟨p, r, e, g, q⟩
  subst e
  cases ry
  exact d_in hu I g rx fun s' I' => ⟨.bl _, H, I', rfl, q⟩
theorem op_notInD (hu : X.A.units + 1 < cLine) : OpR X (compareOp .NotIn) (fun x y H Q => ∃ p r, y = .ref p ∧ DGet H p x r ∧ Q (.bl (!r.isSome)) H) := by
  intro pins s σ H x y v u Q I rx ry ⟨p, r, e, g, q⟩
  subst e
  cases ry
  exact d_notIn hu I g rx fun s' I' => ⟨.bl _, H, I', rfl, q⟩
theorem lo_in (hu : X.A.units + 64 < cLine) : OpL X (compareOp .In) (gIn X.K false) := OpL.or (r := lInSeq X.K false) (r' := lInD false) lo_inSeq (OpR.imp (op_inD (by omega)) fun x y H Q ⟨L, QL, hL, ⟨p, r, e, h, h3⟩, k⟩ => ⟨p, r, e, h H hL, k _ _ _ h3 hL⟩)
theorem lo_notIn (hu : X.A.units + 64 < cLine) : OpL X (compareOp .NotIn) (gIn X.K true) := OpL.or (r := lInSeq X.K true) (r' := lInD true) lo_notInSeq (OpR.imp (op_notInD (by omega)) fun x y H Q ⟨L, QL, hL, ⟨p, r, e, h, h3⟩, k⟩ => ⟨p, r, e, h H hL, k _ _ _ h3 hL⟩)
theorem IxR.imp {r r' : R2} (h : IxR X r) (hi : ∀ x y H Q, r' x y H Q → r x y H Q) : IxR X r' := fun value slice pins s σ H x y v u Q I rx ry q hs => h value slice pins s σ H x y v u Q I rx ry (hi _ _ _ _ q) hs
theorem ix_dict (hu : X.A.units + 1 < cLine) : IxR X (fun x y H Q => ∃ a v, x = .ref a ∧ DGet H a y (some v) ∧ Q v H) := by
  intro value slice pins s σ H x y v u Q I rx ry ⟨a, w, e, g, q⟩ hs
  subst e
  cases rx
  exact tail_any (dict_typeIs I g) F.slot_dict_getitem.lookup (d_getItem hu I g ry fun w' s' I' r => ⟨w, H, I', r, q⟩) hs
theorem lx_ix (hu : X.A.units + 64 < cLine) : IxL X (gIx X.K) := IxL.or (r := lIxL X.K) (r' := fun x y L Q => lIxT X.K x y L Q ∨ lIxD x y L Q)
  (IxR.imp ix_list fun x y H Q ⟨L, QL, hL, ⟨p, xs, i, v, e1, e2, h1, h2, h3⟩, k⟩ => ⟨p, xs, i, v, e1, e2, h1 H hL, h2, k _ _ _ h3 hL⟩)
  (IxL.or (r := lIxT X.K) (r' := lIxD) (IxR.imp ix_tup fun x y H Q ⟨L, QL, hL, ⟨p, xs, i, v, e1, e2, h1, h2, h3⟩, k⟩ => ⟨p, xs, i, v, e1, e2, h1 H hL, h2, k _ _ _ h3 hL⟩)
    (IxR.imp (ix_dict (by omega)) fun x y H Q ⟨L, QL, hL, ⟨p, v, e1, h1, h3⟩, k⟩ => ⟨p, v, e1, h1 H hL, k _ _ _ h3 hL⟩))
theorem SlR.imp {r r' : V → Option Int → Option Int → Hp → VK → Prop} (h : SlR X r) (hi : ∀ x lo hi H Q, r' x lo hi H Q → r x lo hi H Q) : SlR X r' := fun pins s σ H x v vl vu lo hi' sl Q I rx hs pl pu q => h pins s σ H x v vl vu lo hi' sl Q I rx hs pl pu (hi _ _ _ _ _ q)
theorem lsl_ok : SlL X (gSl X.K) := SlL.or (r := lSlL X.K) (r' := lSlT X.K)
  (SlR.imp sl_list fun x lo hi H Q ⟨L, QL, hL, ⟨a, xs, e, h1, h2⟩, k⟩ => ⟨a, xs, e, h1 H hL, fun p hp => k _ _ _ (h2 p (hL.fresh hp)) (hL.new hp)⟩)
  (SlR.imp sl_tup fun x lo hi H Q ⟨L, QL, hL, ⟨a, xs, e, h1, h3, h2⟩, k⟩ => ⟨a, xs, e, h1 H hL, h3, fun p hp => k _ _ _ (h2 p (hL.fresh hp)) (hL.new hp)⟩)
theorem PSet.imp {r r' : TSet} (h : PSet X r) (hi : ∀ o i v H Q, r' o i v H Q → r o i v H Q) : PSet X r' := fun pins s σ H o i v ov iv u Q I r1 r2 r3 q => h pins s σ H o i v ov iv u Q I r1 r2 r3 (hi _ _ _ _ _ q)
theorem set_dict (hu : X.A.units + 1 < cLine) : PSet X (fun o i v H Q => ∃ a H', o = .ref a ∧ DPut H a i v H' ∧ Q H') := by
  intro pins s σ H o i v ov iv u Q I r1 r2 r3 ⟨a, H', e, g, q⟩
  subst e
  cases r1
  exact d_setItem hu I g r2 r3 fun s' I' => ⟨H', I', q⟩
theorem lset_ok (hu : X.A.units + 64 < cLine) : SetL X gSet := SetL.or (t := lSetL) (t' := lSetD)
  (PSet.imp set_list fun o i v H Q ⟨L, QL, hL, ⟨p, xs, k', j, L', e1, e2, h1, h2, h3⟩, k⟩ => ⟨p, xs, k', j, e1, e2, h2.at_ H hL, h1, k _ _ h3 (h2.led hL)⟩)
  (PSet.imp (set_dict (by omega)) fun o i v H Q ⟨L, QL, hL, ⟨p, kvs, k', L', e1, e2, h1, h2, h3⟩, k⟩ => ⟨p, _, e1, .inl ⟨kvs, k', h2.at_ H hL, e2, h1, rfl⟩, k _ _ h3 (h2.led hL)⟩)
theorem CallR.imp {f : Value} {r r' : List V → Hp → VK → Prop} (h : CallR X f r) (hi : ∀ xs H Q, r' xs H Q → r xs H Q) : CallR X f r' := fun pins s σ H xs us Q I rx q => h pins s σ H xs us Q I rx (hi _ _ _ q)
theorem MtR.imp {id : String} {r r' : V → List V → Hp → VK → Prop} (h : MtR X id r) (hi : ∀ x xs H Q, r' x xs H Q → r x xs H Q) : MtR X id r' := fun pins s σ H x xs v us Q I r1 r2 q => h pins s σ H x xs v us Q I r1 r2 (hi _ _ _ _ q)
/-! calls of built-ins -/
def lLenSeq (K : PySem.W.Frag) : LRC := fun xs L Q => ∃ p ys, xs = [.ref p] ∧ (IsL K L p ys ∨ IsT K L p ys) ∧ Q (.int ys.length) L
def lLenD : LRC := fun xs L Q => ∃ p kvs, xs = [.ref p] ∧ At L p (.dK kvs) ∧ Q (.int kvs.length) L
def gLen (K : PySem.W.Frag) : LRC := fun xs L Q => lLenSeq K xs L Q ∨ lLenD xs L Q
theorem lk_len : CallL X (.builtin "len") (gLen X.K) := CallL.or (r := lLenSeq X.K) (r' := lLenD)
  (CallR.imp call_len_seq fun xs H Q ⟨L, QL, hL, ⟨p, ys, e, h1, h2⟩, k⟩ => ⟨p, ys, e, h1.imp (fun h => h H hL) (fun h => h H hL), k _ _ _ h2 hL⟩)
  (CallR.imp call_lenD fun xs H Q ⟨L, QL, hL, ⟨p, ys, e, h1, h2⟩, k⟩ => ⟨p, ys, e, h1 H hL, k _ _ _ h2 hL⟩)
def gList (K : PySem.W.Frag) : LRC := fun xs L Q => ∃ p ys, xs = [.ref p] ∧ (IsL K L p ys ∨ IsT K L p ys) ∧ ∀ l, l ∉ keys L → Q (.ref l) ([(l, .lst ys)] :: L)
theorem lk_list : CallL X (.type "list") (gList X.K) := CallR.imp call_list_of fun xs H Q ⟨L, QL, hL, ⟨p, ys, e, h1, h2⟩, k⟩ => ⟨p, ys, e, h1.imp (fun h => h H hL) (fun h => h H hL), fun l hl => k _ _ _ (h2 l (hL.fresh hl)) (hL.new hl)⟩
def gTuple (K : PySem.W.Frag) : LRC := fun xs L Q => ∃ p ys, xs = [.ref p] ∧ ((IsL K L p ys ∧ ∀ l, l ∉ keys L → Q (.ref l) ([(l, .tup ys)] :: L)) ∨ (IsT K L p ys ∧ Q (.ref p) L))
theorem lk_tuple : CallL X (.type "tuple") (gTuple X.K) := CallR.imp call_tuple_of fun xs H Q ⟨L, QL, hL, ⟨p, ys, e, h⟩, k⟩ => ⟨p, ys, e, h.imp (fun ⟨h1, h2⟩ => ⟨h1 H hL, fun l hl => k _ _ _ (h2 l (hL.fresh hl)) (hL.new hl)⟩) (fun ⟨h1, h2⟩ => ⟨h1 H hL, k _ _ _ h2 hL⟩)⟩
def gDivmod : LRC := fun xs L Q => ∃ i j, xs = [.int i, .int j] ∧ CDiv i j ∧ ∀ p, p ∉ keys L → Q (.ref p) ([(p, .tup [.int (i / j), .int (i % j)])] :: L)
theorem lk_divmod : CallL X (.builtin "divmod") gDivmod := CallR.imp call_divmod fun xs H Q ⟨L, QL, hL, ⟨i, j, e, h1, h2⟩, k⟩ => ⟨i, j, e, h1, fun l hl => k _ _ _ (h2 l (hL.fresh hl)) (hL.new hl)⟩
def gAbs : LRC := fun xs L Q => ∃ i, xs = [.int i] ∧ Q (.int (if i < 0 then -i else i)) L
theorem lk_abs : CallL X (.builtin "abs") gAbs := CallR.imp call_abs fun xs H Q ⟨L, QL, hL, ⟨i, e, h⟩, k⟩ => ⟨i, e, k _ _ _ h hL⟩
def gMax2 : LRC := fun xs L Q => ∃ i j, xs = [.int i, .int j] ∧ Q (.int (if j > i then j else i)) L
def gMin2 : LRC := fun xs L Q => ∃ i j, xs = [.int i, .int j] ∧ Q (.int (if j < i then j else i)) L
theorem lk_max2 (hc : X.calm = true) : CallL X (.builtin "max") gMax2 := CallR.imp (call_max2 hc) fun xs H Q ⟨L, QL, hL, ⟨i, j, e, h⟩, k⟩ => ⟨i, j, e, k _ _ _ h hL⟩
theorem lk_min2 (hc : X.calm = true) : CallL X (.builtin "min") gMin2 := CallR.imp (call_min2 hc) fun xs H Q ⟨L, QL, hL, ⟨i, j, e, h⟩, k⟩ => ⟨i, j, e, k _ _ _ h hL⟩
def gInt : LRC := fun xs L Q => (∃ i, xs = [.int i] ∧ Q (.int i) L) ∨ ∃ k, xs = [.bl k] ∧ Q (.int (if k then 1 else 0)) L
theorem lk_int : CallL X (.type "int") gInt := CallR.imp call_int1 fun xs H Q ⟨L, QL, hL, h, k⟩ => h.imp (fun ⟨i, e, q⟩ => ⟨i, e, k _ _ _ q hL⟩) (fun ⟨i, e, q⟩ => ⟨i, e, k _ _ _ q hL⟩)
def gSum (K : PySem.W.Frag) : LRC := fun xs L Q => ∃ (a : Addr) (ns : List Int), xs = [.ref a] ∧ IsL K L a (ns.map V.int) ∧ Q (.int ns.sum) L
theorem lk_sum (hc : X.calm = true) : CallL X (.builtin "sum") (gSum X.K) := CallR.imp (cr_sum hc) fun xs H Q ⟨L, QL, hL, ⟨a, ns, e, h1, h⟩, k⟩ => ⟨a, ns, e, h1 H hL, k _ _ _ h hL⟩
def gAll (K : PySem.W.Frag) : LRC := fun xs L Q => ∃ (a : Addr) (bs : List Bool), xs = [.ref a] ∧ IsL K L a (bs.map V.bl) ∧ Q (.bl (bs.all id)) L
theorem lk_all (hc : X.calm = true) : CallL X (.builtin "all") (gAll X.K) := CallR.imp (cr_all hc) fun xs H Q ⟨L, QL, hL, ⟨a, ns, e, h1, h⟩, k⟩ => ⟨a, ns, e, h1 H hL, k _ _ _ h hL⟩
def TyXL (K : PySem.W.Frag) (L : Lg) (x : V) (t : Value) : Prop := ∀ H, Led H L → TyX K H x t
def lIsi (K : PySem.W.Frag) : LRC := fun xs L Q => ∃ (x c : V) (t u : Value) (b : Bool), xs = [x, c] ∧ ClsV c u ∧ TyXL K L x t ∧ PySem.W.kitOne K t u = some b ∧ Q (.bl b) L
theorem lk_isi : CallL X (.builtin "isinstance") (lIsi X.K) := CallR.imp call_isi fun xs H Q ⟨L, QL, hL, ⟨x, c, t, u, b, e, h1, h2, h3, h⟩, k⟩ => ⟨x, c, t, u, b, e, h1, h2 H hL, h3, k _ _ _ h hL⟩
/-! methods of built-ins -/
def gAppend : V → LRC := fun x vs L Q => ∃ l xs y L', x = .ref l ∧ vs = [y] ∧ xs.length < sizeLine ∧ Wr l (.lst xs) (.lst (xs ++ [y])) L L' ∧ Q .non L'
theorem lm_append : MtL X "list.append" gAppend := MtR.imp (mt_append : MtM X "list.append" rAppend) fun x xs H Q ⟨L, QL, hL, ⟨l, ys, y, L', e1, e2, h1, h2, h3⟩, k⟩ => ⟨l, ys, y, e1, e2, h2.at_ H hL, h1, k _ _ _ h3 (h2.led hL)⟩
def gExtend : V → LRC := fun x vs L Q => ∃ l b xs zs L', x = .ref l ∧ vs = [.ref b] ∧ At L b (.lst zs) ∧ xs.length + zs.length ≤ sizeLine ∧ Wr l (.lst xs) (.lst (xs ++ zs)) L L' ∧ Q .non L'
theorem lm_extend : MtL X "list.extend" gExtend := MtR.imp (mt_extend : MtM X "list.extend" rExtend) fun x xs H Q ⟨L, QL, hL, ⟨l, b, ys, zs, L', e1, e2, h0, h1, h2, h3⟩, k⟩ => ⟨l, b, ys, zs, e1, e2, h2.at_ H hL, h0 H hL, h1, k _ _ _ h3 (h2.led hL)⟩
def gPop : V → LRC := fun x vs L Q => ∃ l xs y L', x = .ref l ∧ vs = [] ∧ xs[xs.length - 1]? = some y ∧ Wr l (.lst xs) (.lst xs.dropLast) L L' ∧ Q y L'
theorem lm_pop : MtL X "list.pop" gPop := MtR.imp (mt_pop : MtM X "list.pop" rPop) fun x xs H Q ⟨L, QL, hL, ⟨l, ys, y, L', e1, e2, h1, h2, h3⟩, k⟩ => ⟨l, ys, y, e1, e2, h2.at_ H hL, h1, k _ _ _ h3 (h2.led hL)⟩
def gClear : V → LRC := fun x vs L Q => ∃ l xs L', x = .ref l ∧ vs = [] ∧ Wr l (.lst xs) (.lst []) L L' ∧ Q .non L'
theorem lm_clear : MtL X "list.clear" gClear := MtR.imp (mt_clear : MtM X "list.clear" rClear) fun x xs H Q ⟨L, QL, hL, ⟨l, ys, L', e1, e2, h2, h3⟩, k⟩ => ⟨l, ys, e1, e2, h2.at_ H hL, k _ _ _ h3 (h2.led hL)⟩
end
end VM

end

section
namespace VM
open PySem PySem.Spec L2
open PyProof.Rows hiding St

/-! ### a def and what it keeps -/
def OkM (P : Program) (w : World) (K : PySem.W.Frag) (mg : Str → Option Value) (base : Heap) (k : Nat) (f : Addr) (ps : List Str) (sp : LSp) : Prop := ∃ fd, FnOk P w K mg base CX0 k f fd ps (UpP sp) ∧ Binds K fd ps [] ∧ PySem.W.keepIn K (.ref f) = true
def OkF (P : Program) (w : World) (K : PySem.W.Frag) (mg : Str → Option Value) (base : Heap) (k : Nat) (x : Str) (ps : List Str) (sp : LSp) : Prop := mg x = some (.ref (He.ga K x)) ∧ OkM P w K mg base k (He.ga K x) ps sp
theorem OkM.imp {P : Program} {w : World} {K : PySem.W.Frag} {mg : Str → Option Value} {base : Heap} {k : Nat} {f : Addr} {ps : List Str} {sp sp' : LSp} (G : OkM P w K mg base k f ps sp) (h : ∀ vs L Q E, sp' vs L Q E → sp vs L Q E) : OkM P w K mg base k f ps sp' := by
  obtain ⟨fd, F, b, kp⟩ := G
  exact ⟨fd, F.imp fun vs H Q E ⟨L, QL, EL, h1, h2, h3⟩ => ⟨L, QL, EL, h1, h _ _ _ _ h2, h3⟩, b, kp⟩
section
variable {X : Cx} {k : Nat} {f C : Addr} {ps : List Str} {sp : LSp} {x m : Str} {p pos apos : Pos} {e o : Expr} {es : List Expr} {ta te : LTE} {t : LTA}
def lCallP (sp : LSp) (t : LTA) : LTE := fun σ L Q => t σ L fun vs => Wk fun L1 => sp vs L1 Q noX
def lMethP (C : Addr) (m : Str) (sp : LSp) (ta : LTE) (t : LTA) : LTE := fun σ L Q => ta σ L fun x L1 => ObjL C m x L1 ∧ t σ L1 fun vs => Wk fun L2 => sp (x :: vs) L2 Q noX
def MakeP (C : Addr) (sp : LSp) (Q : LVK) : List V → Lg → Prop := fun vs L1 => ∀ x dx, x ∉ keys L1 → sp (.ref x :: vs) ([(x, .ins C dx [])] :: L1) (fun v L2 => v = .non ∧ Q (.ref x) L2) noX
def lMakeP (C : Addr) (sp : LSp) (t : LTA) : LTE := fun σ L Q => t σ L (MakeP C sp Q)
theorem LE.imp {e : Expr} {t t' : LTE} (p : LE X e t) (h : ∀ σ L Q, t' σ L Q → t σ L Q) : LE X e t' := PE.imp p fun σ H Q ⟨L, QL, hL, q, k⟩ => ⟨L, QL, hL, h _ _ _ q, k⟩
/-- a promise behind another telling of the ledger -/
def wkP (sp : LSp) : LSp := fun vs L Q E => Wk (fun L1 => sp vs L1 Q E) L
theorem FnOk.wk {P : Program} {w : World} {K : PySem.W.Frag} {mg : Str → Option Value} {base : Heap} {CX : CXT} {k : Nat} {f : Addr} {fd : FuncData} {ps : List Str} {sp : LSp} (F : FnOk P w K mg base CX k f fd ps (UpP sp)) : FnOk P w K mg base CX k f fd ps (UpP (wkP sp)) :=
  F.imp fun vs H Q E ⟨L, QL, EL, h1, ⟨L', l, h2⟩, h3⟩ => ⟨L', QL, EL, l H h1, h2, h3⟩
theorem lcallO (G : OkF X.prog X.w X.K X.mg X.base k x ps sp) (hr : Room k X.A) (hg : Gl X x) (ha : LA X (e :: es) t) (hdb : (x == ("__debug__" : Str)) = false := by decide)
    (he : starEach (e :: es) X.env = (false, eval e X.env) :: starEach es X.env := by rfl) (hpl : (backTo pos (starEach es X.env)).any (·.1) = false := by rfl) : LE X (.Call (.Name x p) (e :: es) [] pos) (lCallP sp t) := by
  obtain ⟨hm, fd, F, b, kp⟩ := G
  refine LE.imp (lcall (E := noX) (dvs := []) (FnOk.wk F) hr hg hm kp b .nil passN ha hdb he hpl) fun σ L Q h => ?_
  show t σ L fun vs => Wk fun L1 => sp (vs ++ []) L1 Q noX
  simp only [List.append_nil]
  exact h
theorem lcallO0 (G : OkF X.prog X.w X.K X.mg X.base k x ps sp) (hr : Room k X.A) (hg : Gl X x) (hdb : (x == ("__debug__" : Str)) = false := by decide) : LE X (.Call (.Name x p) [] [] pos) (lCallP sp lNil) := by
  obtain ⟨hm, fd, F, b, kp⟩ := G
  exact lcall0 (E := noX) (dvs := []) (FnOk.wk F) hr hg hm kp b .nil passN hdb
theorem lmethO {pl : Sem Bool} (c : Cls X.K C) (hm : Meth X.K C m f) (G : OkM X.prog X.w X.K X.mg X.base k f ps sp) (hr : Room k X.A) (he : LE X o ta) (ha : LA X (e :: es) t)
    (hst : starEach (e :: es) X.env = (false, eval e X.env) :: starEach es X.env := by rfl) (hpl : (backTo pos (starEach es X.env)).any (·.1) = false := by rfl)
    (ht : eval (.Call (.Attribute o m apos) (e :: es) [] pos) X.env = (do
      let ov ← eval o X.env
      standAt apos.atName
      let (f, first) ← holding [ov] (getMethod ov m pl)
      callWith pos f first (backTo pos (starEach (e :: es) X.env)) (backToKw pos (keywordEach [] X.env))) := by rfl) :
    LE X (.Call (.Attribute o m apos) (e :: es) [] pos) (lMethP C m sp ta t) := by
  obtain ⟨fd, F, b, kp⟩ := G
  refine LE.imp (lmeth (E := noX) (dvs := []) he c hm (FnOk.wk F) hr b .nil passN ha hst hpl ht) fun σ L Q h => ?_
  show ta σ L fun x L1 => ObjL C m x L1 ∧ t σ L1 fun vs => Wk fun L2 => sp (x :: (vs ++ [])) L2 Q noX
  simp only [List.append_nil]
  exact h
theorem lmethO0 {pl : Sem Bool} (c : Cls X.K C) (hm : Meth X.K C m f) (G : OkM X.prog X.w X.K X.mg X.base k f ps sp) (hr : Room k X.A) (he : LE X o ta)
    (ht : eval (.Call (.Attribute o m apos) [] [] pos) X.env = (do
      let ov ← eval o X.env
      standAt apos.atName
      let (f, first) ← holding [ov] (getMethod ov m pl)
      callWith pos f first (backTo pos (starEach [] X.env)) (backToKw pos (keywordEach [] X.env))) := by rfl) :
    LE X (.Call (.Attribute o m apos) [] [] pos) (lMethP C m sp ta lNil) := by
  obtain ⟨fd, F, b, kp⟩ := G
  exact lmeth0 (E := noX) (dvs := []) he c hm (FnOk.wk F) hr b .nil passN ht
theorem lmakeO (M : Mk X.K C f) (hm : X.mg x = some (.ref C)) (G : OkM X.prog X.w X.K X.mg X.base k f ps sp) (hr : Room (k + 1) X.A) (hg : Gl X x)
    (ha : LA X (e :: es) t) (hdb : (x == ("__debug__" : Str)) = false := by decide) (he : starEach (e :: es) X.env = (false, eval e X.env) :: starEach es X.env := by rfl) (hpl : (backTo pos (starEach es X.env)).any (·.1) = false := by rfl) :
    LE X (.Call (.Name x p) (e :: es) [] pos) (lMakeP C sp t) := by
  obtain ⟨fd, F, b, kp⟩ := G
  refine LE.imp (lmake (E := noX) (dvs := []) M F hr hg hm b .nil passN ha hdb he hpl) fun σ L Q h => ?_
  show t σ L fun vs L1 => ∀ x dx, x ∉ keys L1 → sp (.ref x :: (vs ++ [])) ([(x, .ins C dx [])] :: L1) (fun v L2 => v = .non ∧ Q (.ref x) L2) noX
  simp only [List.append_nil]
  exact h
/-- a def, by its body; the slots at the entry told as they are -/
theorem fn_ok2 {P : Program} {w : World} {K : PySem.W.Frag} {mg : Str → Option Value} {base : Heap} {y qual : Str} {params : Arguments} {body : List Stmt} {scope : Scope} {dvs : List V} {kws : List (Str × V)} {g : Addr} {fd : FuncData} {N qs : List Str} {j : Nat} {sp' : LSp}
    (F : FunD K y qual params body scope dvs kws g fd) (S : FnScope N qs scope) (len : ∀ vs L Q E, sp' vs L Q E → vs.length = qs.length)
    (hbody : ∀ (cdv : Value) (A : Around) (outer : List Env) (s : Shared) (H : Hp) (E : XK), Room j (A.deeper (envOfC qual scope s.heap.objs.size g cdv)) →
      ∃ t, LSs (cxOf CX0 P w K mg base N qual scope g cdv A outer s H E).nox body t ∧ ∀ vs L Q EL σ, sp' vs L Q EL → start N vs = σ → t ⟨fun _ => Wk (Q .non), Q, fun _ _ => False, fun _ _ => False⟩ σ L) : FnOk P w K mg base CX0 (j + 1) g fd qs (UpP sp') :=
  fn_ok F S len fun cdv A outer s H E hr => let ⟨t, h1, h2⟩ := hbody cdv A outer s H E hr; ⟨t, h1, fun vs L Q EL h => h2 vs L Q EL _ h rfl⟩
def gNeg : LR1 := fun x L Q => ∃ i, x = .int i ∧ Q (.int (-i)) L
theorem lo_neg : UnL X (unaryOp .USub) gNeg := by
  intro pins s σ H x v Q I rx q
  obtain ⟨L, QL, hL, ⟨i, e, hq⟩, k⟩ := q
  exact un_neg pins s σ H x v Q I rx ⟨i, e, k _ _ _ hq hL⟩
/-! promises of so many arguments -/
def sp1 (P : V → Lg → LVK → Prop) : LSp := fun vs L Q _ => ∃ a, vs = [a] ∧ P a L Q
def sp2 (P : V → V → Lg → LVK → Prop) : LSp := fun vs L Q _ => ∃ a b, vs = [a, b] ∧ P a b L Q
def sp3 (P : V → V → V → Lg → LVK → Prop) : LSp := fun vs L Q _ => ∃ a b c, vs = [a, b, c] ∧ P a b c L Q
def sp4 (P : V → V → V → V → Lg → LVK → Prop) : LSp := fun vs L Q _ => ∃ a b c d, vs = [a, b, c, d] ∧ P a b c d L Q
def sp5 (P : V → V → V → V → V → Lg → LVK → Prop) : LSp := fun vs L Q _ => ∃ a b c d e, vs = [a, b, c, d, e] ∧ P a b c d e L Q
def sp6 (P : V → V → V → V → V → V → Lg → LVK → Prop) : LSp := fun vs L Q _ => ∃ a b c d e f, vs = [a, b, c, d, e, f] ∧ P a b c d e f L Q
def sp7 (P : V → V → V → V → V → V → V → Lg → LVK → Prop) : LSp := fun vs L Q _ => ∃ a b c d e f g, vs = [a, b, c, d, e, f, g] ∧ P a b c d e f g L Q
theorem len1 {P : V → Lg → LVK → Prop} {n : Nat} (h : n = 1) : ∀ vs L Q E, sp1 P vs L Q E → vs.length = n := fun _ _ _ _ ⟨_, e, _⟩ => by rw [e, h]; rfl
theorem len2 {P : V → V → Lg → LVK → Prop} {n : Nat} (h : n = 2) : ∀ vs L Q E, sp2 P vs L Q E → vs.length = n := fun _ _ _ _ ⟨_, _, e, _⟩ => by rw [e, h]; rfl
theorem len3 {P : V → V → V → Lg → LVK → Prop} {n : Nat} (h : n = 3) : ∀ vs L Q E, sp3 P vs L Q E → vs.length = n := fun _ _ _ _ ⟨_, _, _, e, _⟩ => by rw [e, h]; rfl
theorem len4 {P : V → V → V → V → Lg → LVK → Prop} {n : Nat} (h : n = 4) : ∀ vs L Q E, sp4 P vs L Q E → vs.length = n := fun _ _ _ _ ⟨_, _, _, _, e, _⟩ => by rw [e, h]; rfl
theorem len5 {P : V → V → V → V → V → Lg → LVK → Prop} {n : Nat} (h : n = 5) : ∀ vs L Q E, sp5 P vs L Q E → vs.length = n := fun _ _ _ _ ⟨_, _, _, _, _, e, _⟩ => by rw [e, h]; rfl
theorem len6 {P : V → V → V → V → V → V → Lg → LVK → Prop} {n : Nat} (h : n = 6) : ∀ vs L Q E, sp6 P vs L Q E → vs.length = n := fun _ _ _ _ ⟨_, _, _, _, _, _, e, _⟩ => by rw [e, h]; rfl
theorem len7 {P : V → V → V → V → V → V → V → Lg → LVK → Prop} {n : Nat} (h : n = 7) : ∀ vs L Q E, sp7 P vs L Q E → vs.length = n := fun _ _ _ _ ⟨_, _, _, _, _, _, _, e, _⟩ => by rw [e, h]; rfl
end
section
variable {σ : St} {L : Lg} {Q : LVK} {E : LXK} {ta te : LTE} {t : LTA} {sp : LSp} {C : Addr} {m : Str} {a b c d e f g : V} {vs : List V}
theorem s_callP (k : t σ L fun vs => Wk fun L1 => sp vs L1 Q noX) : lCallP sp t σ L Q := k
theorem s_methP (k : ta σ L fun x L1 => ObjL C m x L1 ∧ t σ L1 fun vs => Wk fun L2 => sp (x :: vs) L2 Q noX) : lMethP C m sp ta t σ L Q := k
theorem s_makeP (k : t σ L (MakeP C sp Q)) : lMakeP C sp t σ L Q := k
theorem s_makeK (k : ∀ x dx, sp (.ref x :: vs) ([(x, .ins C dx [])] :: L) (fun v L2 => v = .non ∧ Q (.ref x) L2) noX) : MakeP C sp Q vs L := fun x dx _ => k x dx
theorem s_sp1 {P : V → Lg → LVK → Prop} (k : P a L Q) : sp1 P [a] L Q E := ⟨_, rfl, k⟩
theorem s_sp2 {P : V → V → Lg → LVK → Prop} (k : P a b L Q) : sp2 P [a, b] L Q E := ⟨_, _, rfl, k⟩
theorem s_sp3 {P : V → V → V → Lg → LVK → Prop} (k : P a b c L Q) : sp3 P [a, b, c] L Q E := ⟨_, _, _, rfl, k⟩
theorem s_sp4 {P : V → V → V → V → Lg → LVK → Prop} (k : P a b c d L Q) : sp4 P [a, b, c, d] L Q E := ⟨_, _, _, _, rfl, k⟩
theorem s_sp5 {P : V → V → V → V → V → Lg → LVK → Prop} (k : P a b c d e L Q) : sp5 P [a, b, c, d, e] L Q E := ⟨_, _, _, _, _, rfl, k⟩
theorem s_sp6 {P : V → V → V → V → V → V → Lg → LVK → Prop} (k : P a b c d e f L Q) : sp6 P [a, b, c, d, e, f] L Q E := ⟨_, _, _, _, _, _, rfl, k⟩
theorem s_sp7 {P : V → V → V → V → V → V → V → Lg → LVK → Prop} (k : P a b c d e f g L Q) : sp7 P [a, b, c, d, e, f, g] L Q E := ⟨_, _, _, _, _, _, _, rfl, k⟩
theorem s_obj {dx p : Addr} {fs : List (Str × V)} (h : At L p (.ins C dx fs)) (hl : fs.lookup m = none) : ObjL C m (.ref p) L := fun H l => ⟨p, dx, fs, rfl, h H l, hl⟩
theorem s_objk {dx p : Addr} {fs : List (Str × V)} {B : Prop} (h : At L p (.ins C dx fs)) (hl : fs.lookup m = none) (k : B) : ObjL C m (.ref p) L ∧ B := ⟨s_obj h hl, k⟩
theorem s_tylk {K : PySem.W.Frag} {p : Addr} {xs : List V} {B : Prop} (h : IsL K L p xs) (k : B) : TyL K "list" (.ref p) L ∧ B := ⟨fun H l => .inl ⟨rfl, xs, h H l⟩, k⟩
theorem putF_len (f : Str) (v : V) : ∀ fs : List (Str × V), (putF f v fs).length ≤ fs.length + 1
  | [] => by simp [putF]
  | (g, u) :: r => by
    have := putF_len f v r
    unfold putF
    split <;> simp <;> omega
theorem fz {f : Str} {v : V} {fs : List (Str × V)} {n : Nat} (h : fs.length < n) : (putF f v fs).length < n + 1 := by
  have := putF_len f v fs
  omega
theorem fz0 : ([] : List (Str × V)).length < 980 := by decide
theorem fzw {fs : List (Str × V)} {n : Nat} (h : fs.length < n) (hn : n ≤ 1000 := by decide) : fs.length < 1000 := Nat.lt_of_lt_of_le h hn
/-- a list of values that are ints -/
inductive IntsV : List V → List Int → Prop
  | nil : IntsV [] []
  | cons {a : Int} {xs : List V} {ns : List Int} (h : IntsV xs ns) : IntsV (.int a :: xs) (a :: ns)
  | map {ns : List Int} : IntsV (ns.map V.int) ns
  | app {xs ys : List V} {ns ms : List Int} (h : IntsV xs ns) (h' : IntsV ys ms) : IntsV (xs ++ ys) (ns ++ ms)
theorem IntsV.eq {xs : List V} {ns : List Int} (h : IntsV xs ns) : xs = ns.map V.int := by
  induction h with
  | nil => rfl
  | cons _ ih => rw [ih]; rfl
  | map => rfl
  | app _ _ i1 i2 => rw [i1, i2, List.map_append]
theorem s_init {Q : Lg → Prop} (k : Q L) : (V.non = .non ∧ Q L) := ⟨rfl, k⟩
/-! steps of the operations -/
variable {K : PySem.W.Frag} {i j : Int} {p q : Addr} {xs ys : List V} {ns ms : List Int} {v y : V} {L' : Lg}
theorem s_add_i (k : Q (.int (i + j)) L) : gAdd K (.int i) (.int j) L Q := .inl ⟨i, j, rfl, rfl, k⟩
theorem s_add_l (h1 : At L p (.lst xs)) (h2 : At L q (.lst ys)) (hz : xs.length + ys.length ≤ sizeLine) (k : ∀ r, Q (.ref r) ([(r, .lst (xs ++ ys))] :: L)) : gAdd K (.ref p) (.ref q) L Q := .inr (.inl ⟨p, q, xs, ys, rfl, rfl, h1, h2, hz, fun r _ => k r⟩)
theorem s_add_t (h1 : IsT K L p xs) (h2 : IsT K L q ys) (n1 : xs ≠ []) (n2 : ys ≠ []) (hz : xs.length + ys.length ≤ sizeLine) (k : ∀ r, Q (.ref r) ([(r, .tup (xs ++ ys))] :: L)) : gAdd K (.ref p) (.ref q) L Q := .inr (.inr (.inl ⟨p, q, xs, ys, rfl, rfl, h1, h2, n1, n2, hz, fun r _ => k r⟩))
theorem s_sub (k : Q (.int (i - j)) L) : gSub (.int i) (.int j) L Q := ⟨i, j, rfl, rfl, k⟩
theorem s_mul (h : CMulG i j) (k : Q (.int (i * j)) L) : gMul (.int i) (.int j) L Q := .inl ⟨i, j, rfl, rfl, h, k⟩
theorem s_rep (h : At L p (.lst xs)) (h1 : 0 ≤ j) (h2 : xs.length * j.toNat ≤ 1000000) (h3 : j < 2 ^ 63) (k : ∀ r, Q (.ref r) ([(r, .lst (List.replicate j.toNat xs).flatten)] :: L)) : gMul (.ref p) (.int j) L Q := .inr ⟨p, j, xs, rfl, rfl, h, by omega, h3, Nat.le_trans h2 (by decide), fun r _ => k r⟩
theorem s_mod (h : 0 < j) (k : Q (.int (i % j)) L) : gMod (.int i) (.int j) L Q := ⟨i, j, rfl, rfl, h, k⟩
theorem s_div (h : CDivW i j) (k : Q (.int (i / j)) L) : gDiv (.int i) (.int j) L Q := ⟨i, j, rfl, rfl, h, k⟩
theorem s_pow {r : Int} (h : CPow i j) (e : i ^ j.toNat = r) (k : Q (.int r) L) : gPow (.int i) (.int j) L Q := ⟨i, j, rfl, rfl, h, by subst e; exact k⟩
theorem s_shl (h : CPow i j) (k : Q (.int (i * 2 ^ j.toNat)) L) : gShl (.int i) (.int j) L Q := ⟨i, j, rfl, rfl, h, k⟩
theorem s_shr (h : 0 ≤ j) (k : Q (.int (i / 2 ^ j.toNat)) L) : gShr (.int i) (.int j) L Q := ⟨i, j, rfl, rfl, h, k⟩
theorem s_band (k : Q (.int (Builtin.bitAnd i j)) L) : gAnd (.int i) (.int j) L Q := ⟨i, j, rfl, rfl, k⟩
theorem s_bor (k : Q (.int (Builtin.bitOr i j)) L) : gOr (.int i) (.int j) L Q := ⟨i, j, rfl, rfl, k⟩
theorem s_bxor (k : Q (.int (Builtin.bitXor i j)) L) : gXor (.int i) (.int j) L Q := ⟨i, j, rfl, rfl, k⟩
theorem s_neg (k : Q (.int (-i)) L) : gNeg (.int i) L Q := ⟨i, rfl, k⟩
theorem s_lt (k : Q (.bl (decide (i < j))) L) : gLt (.int i) (.int j) L Q := ⟨i, j, rfl, rfl, k⟩
theorem s_le (k : Q (.bl (decide (i ≤ j))) L) : gLe (.int i) (.int j) L Q := ⟨i, j, rfl, rfl, k⟩
theorem s_gt (k : Q (.bl (decide (j < i))) L) : gGt (.int i) (.int j) L Q := ⟨i, j, rfl, rfl, k⟩
theorem s_ge (k : Q (.bl (decide (j ≤ i))) L) : gGe (.int i) (.int j) L Q := ⟨i, j, rfl, rfl, k⟩
theorem dec_i {i j : Int} : decide (V.int i = V.int j) = decide (i = j) := by
  by_cases h : i = j
  · subst h; simp
  · rw [decide_eq_false h, decide_eq_false (fun z => h (V.int.inj z))]
theorem dec_b {i j : Bool} : decide (V.bl i = V.bl j) = decide (i = j) := by
  by_cases h : i = j
  · subst h; simp
  · rw [decide_eq_false h, decide_eq_false (fun z => h (V.bl.inj z))]
theorem dec_s {i j : Str} : decide (V.str i = V.str j) = decide (i = j) := by
  by_cases h : i = j
  · subst h; simp
  · rw [decide_eq_false h, decide_eq_false (fun z => h (V.str.inj z))]
theorem s_eq_i (k : Q (.bl (decide (i = j))) L) : gEq K (.int i) (.int j) L Q := .inl ⟨rfl, by rw [dec_i]; exact k⟩
theorem s_ne_i (k : Q (.bl (!decide (i = j))) L) : gNe K (.int i) (.int j) L Q := .inl ⟨rfl, by rw [dec_i]; exact k⟩
theorem s_eq_b {a b : Bool} (k : Q (.bl (decide (a = b))) L) : gEq K (.bl a) (.bl b) L Q := .inl ⟨rfl, by rw [dec_b]; exact k⟩
theorem s_ne_b {a b : Bool} (k : Q (.bl (!decide (a = b))) L) : gNe K (.bl a) (.bl b) L Q := .inl ⟨rfl, by rw [dec_b]; exact k⟩
theorem s_eq_s {a b : Str} (k : Q (.bl (decide (a = b))) L) : gEq K (.str a) (.str b) L Q := .inl ⟨rfl, by rw [dec_s]; exact k⟩
theorem s_ne_s {a b : Str} (k : Q (.bl (!decide (a = b))) L) : gNe K (.str a) (.str b) L Q := .inl ⟨rfl, by rw [dec_s]; exact k⟩
theorem s_eq_d {x y : V} {d e : PyData} (h1 : DpL K L x d) (h2 : DpL K L y e) (h3 : SeqAt.shaped d = true) (h4 : SeqAt.shaped e = true) (k : Q (.bl (PyData.eqv d e)) L) : gEq K x y L Q := .inr ⟨d, e, h1, h2, h3, h4, k⟩
theorem s_ne_d {x y : V} {d e : PyData} (h1 : DpL K L x d) (h2 : DpL K L y e) (h3 : SeqAt.shaped d = true) (h4 : SeqAt.shaped e = true) (k : Q (.bl (!PyData.eqv d e)) L) : gNe K x y L Q := .inr ⟨d, e, h1, h2, h3, h4, k⟩
theorem s_is {b : Bool} (e : decide (v = .non) = b) (k : Q (.bl b) L) : gIs v .non L Q := ⟨rfl, by rw [e]; exact k⟩
theorem s_isN {b : Bool} (e : decide (v = .non) = b) (k : Q (.bl (!b)) L) : gIsN v .non L Q := ⟨rfl, by rw [e]; exact k⟩
theorem s_ix_l (h : IsL K L p xs) (hv : atI xs i = some v) (k : Q v L) : gIx K (.ref p) (.int i) L Q := .inl ⟨p, xs, i, v, rfl, rfl, h, hv, k⟩
theorem s_ix_t (h : IsT K L p xs) (hv : atI xs i = some v) (k : Q v L) : gIx K (.ref p) (.int i) L Q := .inr (.inl ⟨p, xs, i, v, rfl, rfl, h, hv, k⟩)
theorem atI_ints {ns : List Int} {i : Int} (h0 : 0 ≤ i) (h1 : i < ns.length) : atI (ns.map V.int) i = some (.int (ns.getD i.toNat 0)) := by
  obtain ⟨n, rfl⟩ : ∃ n : Nat, i = n := ⟨i.toNat, by omega⟩
  refine atI_nat ?_
  have hn : n < ns.length := by omega
  simp [List.getElem?_map, List.getElem?_eq_getElem hn, List.getD_eq_getElem?_getD]
theorem s_ix_ints (h : IsL K L p (ns.map V.int)) (h0 : 0 ≤ i) (h1 : i < ns.length) (k : Q (.int (ns.getD i.toNat 0)) L) : gIx K (.ref p) (.int i) L Q := s_ix_l h (atI_ints h0 h1) k
theorem s_ix_tints (h : IsT K L p (ns.map V.int)) (h0 : 0 ≤ i) (h1 : i < ns.length) (k : Q (.int (ns.getD i.toNat 0)) L) : gIx K (.ref p) (.int i) L Q := s_ix_t h (atI_ints h0 h1) k
theorem s_sl_l {lo hi : Option Int} (h : IsL K L p xs) (k : ∀ r, Q (.ref r) ([(r, .lst (cutV xs lo hi))] :: L)) : gSl K (.ref p) lo hi L Q := .inl ⟨p, xs, rfl, h, fun r _ => k r⟩
theorem s_sl_t {lo hi : Option Int} (h : IsT K L p xs) (hn : ¬ (HT.sIx xs.length 0 lo = 0 ∧ HT.sIx xs.length xs.length hi = xs.length)) (k : ∀ r, Q (.ref r) ([(r, .tup (cutV xs lo hi))] :: L)) : gSl K (.ref p) lo hi L Q := .inr ⟨p, xs, rfl, h, hn, fun r _ => k r⟩
theorem s_set_l {Q : Lg → Prop} {n : Nat} (hw : Wr p (.lst xs) (.lst (xs.set n v)) L L') (h : ixN xs.length i = some n) (k : Q L') : gSet (.ref p) (.int i) v L Q := .inl ⟨p, xs, i, n, L', rfl, rfl, h, hw, k⟩
theorem ixN_pos {n : Nat} {i : Int} (h0 : 0 ≤ i) (h1 : i < n) : ixN n i = some i.toNat := by
  unfold ixN
  rw [if_pos h0, if_pos h1]
theorem s_fldv {f : Str} {dx : Addr} {fs : List (Str × V)} (h : At L p (.ins C dx fs)) (c : Cls K C) (n : NoAttr K C f) (hl : fs.lookup f = some v) (k : Q v L) : FldL K f (.ref p) L Q := fun H l => ⟨p, C, dx, fs, v, rfl, h H l, c, n, hl, L, l, k⟩
theorem s_setfv {f : Str} {Q : Lg → Prop} {dx : Addr} {fs : List (Str × V)} (c : Cls K C) (n : NoAttr K C f) (hz : fs.length < 1000) (hw : Wr p (.ins C dx fs) (.ins C dx (putF f v fs)) L L') (k : Q L') : SetFL K f (.ref p) v L Q := fun H l => ⟨p, C, dx, fs, rfl, hw.at_ H l, c, n, hz, L', hw.led l, k⟩
theorem s_len_l (h : IsL K L p xs) (k : Q (.int xs.length) L) : gLen K [.ref p] L Q := .inl ⟨p, xs, rfl, .inl h, k⟩
theorem s_len_i (h : IsL K L p (ns.map V.int)) (k : Q (.int ns.length) L) : gLen K [.ref p] L Q := s_len_l h (by rw [List.length_map]; exact k)
theorem s_len_ti (h : IsT K L p (ns.map V.int)) (k : Q (.int ns.length) L) : gLen K [.ref p] L Q := .inl ⟨p, _, rfl, .inr h, by rw [List.length_map]; exact k⟩
/-- a cut of a list -/
def cutG {α : Type} (xs : List α) (lo hi : Option Int) : List α := (xs.drop (HT.sIx xs.length 0 lo)).take (HT.sIx xs.length xs.length hi - HT.sIx xs.length 0 lo)
theorem cutV_map {α : Type} (f : α → V) (xs : List α) (lo hi : Option Int) : cutV (xs.map f) lo hi = (cutG xs lo hi).map f := by
  unfold cutV cutG
  rw [List.length_map, List.map_take, List.map_drop]
theorem s_sl_i {lo hi : Option Int} (h : IsL K L p (ns.map V.int)) (k : ∀ r, Q (.ref r) ([(r, .lst ((cutG ns lo hi).map V.int))] :: L)) : gSl K (.ref p) lo hi L Q := .inl ⟨p, _, rfl, h, fun r _ => by rw [cutV_map]; exact k r⟩
theorem s_set_i {Q : Lg → Prop} {n : Nat} (hw : Wr p (.lst (ns.map V.int)) (.lst ((ns.set n j).map V.int)) L L') (h : ixN ns.length i = some n) (k : Q L') : gSet (.ref p) (.int i) (.int j) L Q := by
  rw [List.map_set] at hw
  exact .inl ⟨p, ns.map V.int, i, n, L', rfl, rfl, by rw [List.length_map]; exact h, hw, k⟩
theorem s_len_t (h : IsT K L p xs) (k : Q (.int xs.length) L) : gLen K [.ref p] L Q := .inl ⟨p, xs, rfl, .inr h, k⟩
theorem s_list_l (h : IsL K L p xs) (k : ∀ r, Q (.ref r) ([(r, .lst xs)] :: L)) : gList K [.ref p] L Q := ⟨p, xs, rfl, .inl h, fun r _ => k r⟩
theorem s_list_t (h : IsT K L p xs) (k : ∀ r, Q (.ref r) ([(r, .lst xs)] :: L)) : gList K [.ref p] L Q := ⟨p, xs, rfl, .inr h, fun r _ => k r⟩
theorem s_tuple_l (h : IsL K L p xs) (k : ∀ r, Q (.ref r) ([(r, .tup xs)] :: L)) : gTuple K [.ref p] L Q := ⟨p, xs, rfl, .inl ⟨h, fun r _ => k r⟩⟩
theorem s_tuple_t (h : IsT K L p xs) (k : Q (.ref p) L) : gTuple K [.ref p] L Q := ⟨p, xs, rfl, .inr ⟨h, k⟩⟩
theorem s_divmod (h : CDiv i j) (k : ∀ r, Q (.ref r) ([(r, .tup [.int (i / j), .int (i % j)])] :: L)) : gDivmod [.int i, .int j] L Q := ⟨i, j, rfl, h, fun r _ => k r⟩
theorem s_abs (k : Q (.int (if i < 0 then -i else i)) L) : gAbs [.int i] L Q := ⟨i, rfl, k⟩
theorem s_max2 (k : Q (.int (if j > i then j else i)) L) : gMax2 [.int i, .int j] L Q := ⟨i, j, rfl, k⟩
theorem s_min2 (k : Q (.int (if j < i then j else i)) L) : gMin2 [.int i, .int j] L Q := ⟨i, j, rfl, k⟩
theorem s_int_i (k : Q (.int i) L) : gInt [.int i] L Q := .inl ⟨i, rfl, k⟩
theorem s_int_b {b : Bool} (k : Q (.int (if b then 1 else 0)) L) : gInt [.bl b] L Q := .inr ⟨b, rfl, k⟩
theorem s_sum (h : IsL K L p (ns.map V.int)) (k : Q (.int ns.sum) L) : gSum K [.ref p] L Q := ⟨p, ns, rfl, h, k⟩
theorem s_isi_ty {T : String} {t : Value} {b : Bool} {x : V} (h : TyXL K L x t) (hb : PySem.W.kitOne K t (.type T) = some b) (k : Q (.bl b) L) : lIsi K [x, .ty T] L Q := ⟨x, .ty T, t, .type T, b, rfl, .ty T, h, hb, k⟩
theorem kit_same {K : PySem.W.Frag} {S : String} : PySem.W.kitOne K (.type S) (.type S) = some true := by
  unfold PySem.W.kitOne
  rw [if_pos (by simp)]
theorem kit_ty {K : PySem.W.Frag} {S T : String} {b : Bool} (h : (if S = T then some true else if PySem.W.kitMeta T = true then Option.map (fun x => x.contains (Value.type T)) (PySem.fastBuiltinMro S) else none) = some b) : PySem.W.kitOne K (.type S) (.type T) = some b := by
  by_cases e : S = T
  · rw [if_pos e] at h
    cases h
    rw [e]
    exact kit_same
  · rw [if_neg e] at h
    unfold PySem.W.kitOne
    rw [if_neg (by simpa using e)]
    exact h
theorem ty_i : TyXL K L (.int i) (.type "int") := fun _ _ => .base (.int i)
theorem ty_b {b : Bool} : TyXL K L (.bl b) (.type "bool") := fun _ _ => .base (.bl b)
theorem ty_n : TyXL K L .non (.type "NoneType") := fun _ _ => .base .non
theorem ty_s {s : Str} : TyXL K L (.str s) (.type "str") := fun _ _ => .base (.str s)
theorem ty_t (h : At L p (.tup xs)) : TyXL K L (.ref p) (.type "tuple") := fun H l => .base (.tup (h H l))
theorem ty_l (h : At L p (.lst xs)) : TyXL K L (.ref p) (.type "list") := fun H l => .base (.lst (h H l))
theorem ty_d {kvs : List (Key × V)} (h : At L p (.dK kvs)) : TyXL K L (.ref p) (.type "dict") := fun H l => .base (.dK (h H l))
theorem s_append (hw : Wr p (.lst xs) (.lst (xs ++ [y])) L L') (hz : xs.length < 1000000) (k : Q .non L') : gAppend (.ref p) [y] L Q := ⟨p, xs, y, L', rfl, rfl, Nat.lt_of_lt_of_le hz (by decide), hw, k⟩
theorem s_extend (h : At L q (.lst ys)) (hw : Wr p (.lst xs) (.lst (xs ++ ys)) L L') (hz : xs.length + ys.length ≤ 1000000) (k : Q .non L') : gExtend (.ref p) [.ref q] L Q := ⟨p, q, xs, ys, L', rfl, rfl, h, Nat.le_trans hz (by decide), hw, k⟩
theorem s_clear (hw : Wr p (.lst xs) (.lst []) L L') (k : Q .non L') : gClear (.ref p) [] L Q := ⟨p, xs, L', rfl, rfl, hw, k⟩
theorem s_pop (hw : Wr p (.lst xs) (.lst xs.dropLast) L L') (h : xs[xs.length - 1]? = some v) (k : Q v L') : gPop (.ref p) [] L Q := ⟨p, xs, v, L', rfl, rfl, h, hw, k⟩
theorem tyl_l (h : IsL K L p xs) : TyL K "list" (.ref p) L := fun H l => .inl ⟨rfl, xs, h H l⟩
theorem tyl_a (h : At L p (.lst xs)) : TyL K "list" (.ref p) L := tyl_l (IsL.at_ h)
/-! truth -/
theorem s_tru_b {Q : Bool → Lg → Prop} {b : Bool} (k : Q b L) : gTru K (.bl b) L Q := fun H l => ⟨b, rfl, L, l, k⟩
theorem s_tru_i {Q : Bool → Lg → Prop} (k : Q (i != 0) L) : gTru K (.int i) L Q := fun H l => ⟨_, rfl, L, l, k⟩
theorem s_tru_l {Q : Bool → Lg → Prop} (h : IsL K L p xs) (k : Q (!xs.isEmpty) L) : gTru K (.ref p) L Q := fun H l => ⟨_, .inl ⟨xs, h H l, rfl⟩, L, l, k⟩
/-! what is walked -/
variable {R : LWk → Lg → Prop} {tl : LTE}
def RngK1 (R : LWk → Lg → Prop) : List V → Lg → Prop := fun vs L1 => ∃ j : Int, vs = [.int j] ∧ (-(2 ^ 62) ≤ j ∧ j < 2 ^ 62) ∧ R (wkR 0 j.toNat) L1
def RngK2 (R : LWk → Lg → Prop) : List V → Lg → Prop := fun vs L1 => ∃ i j : Int, vs = [.int i, .int j] ∧ (-(2 ^ 62) ≤ i ∧ i < 2 ^ 62 ∧ -(2 ^ 62) ≤ j ∧ j < 2 ^ 62) ∧ R (wkR i (j - i).toNat) L1
def SeqK (K : PySem.W.Frag) (R : LWk → Lg → Prop) : V → Lg → Prop := fun x L1 => ∃ a xs, x = .ref a ∧ ((IsL K L1 a xs ∧ R (wkL K a xs) L1) ∨ (IsT K L1 a xs ∧ R (wkT K a xs) L1))
def TupK (K : PySem.W.Frag) (R : LWk → Lg → Prop) : V → Lg → Prop := fun x L1 => ∃ a xs, x = .ref a ∧ ((IsT K L1 a xs ∧ R (wkT K a xs) L1))
theorem s_rng1 (k : t σ L (RngK1 R)) : kRng1 t σ L R := k
theorem s_rng1v (h : -(2 ^ 62) ≤ j ∧ j < 2 ^ 62) (k : R (wkR 0 j.toNat) L) : RngK1 R [.int j] L := ⟨j, rfl, h, k⟩
theorem s_rng2 (k : t σ L (RngK2 R)) : kRng2 t σ L R := k
theorem s_rng2v (h : -(2 ^ 62) ≤ i ∧ i < 2 ^ 62 ∧ -(2 ^ 62) ≤ j ∧ j < 2 ^ 62) (k : R (wkR i (j - i).toNat) L) : RngK2 R [.int i, .int j] L := ⟨i, j, rfl, h, k⟩
theorem s_kseq (k : tl σ L (SeqK K R)) : kSeq K tl σ L R := k
theorem s_kseqv (h : IsL K L p xs) (k : R (wkL K p xs) L) : SeqK K R (.ref p) L := ⟨p, xs, rfl, .inl ⟨h, k⟩⟩
theorem s_kseqt (h : IsT K L p xs) (k : R (wkT K p xs) L) : SeqK K R (.ref p) L := ⟨p, xs, rfl, .inr ⟨h, k⟩⟩
theorem s_ktup (k : tl σ L (TupK K R)) : kTup K tl σ L R := k
theorem s_ktupv (h : IsT K L p xs) (k : R (wkT K p xs) L) : TupK K R (.ref p) L := ⟨p, xs, rfl, h, k⟩
/-! loops by their word -/
variable {gg : LTG} {tb : LTS} {n0 : St → Lg → Prop} {r0 : LVK} {b0 c0 : St → Lg → Prop} {lo : Int} {n : Nat}
theorem f_range (Pv : Nat → St → Lg → Prop) (h0 : Wk (Pv 0 σ) L) (hs : ∀ i σ L, i < n → Pv i σ L → gg (.int (lo + i)) σ L fun σ2 L2 => tb ⟨Pv (i + 1), r0, n0, Pv (i + 1)⟩ σ2 L2) (hd : ∀ σ L, Pv n σ L → n0 σ L) : ForR (wkR lo n) gg tb ⟨n0, r0, b0, c0⟩ σ L :=
  ⟨Pv, h0, fun _ _ _ _ _ => trivial, fun i x σ L L' hi p ⟨e1, e2⟩ => by subst e1; subst e2; exact hs i σ _ hi p, hd⟩
theorem f_range0 (Pv : Nat → St → Lg → Prop) (h0 : Wk (Pv 0 σ) L) (hs : ∀ (i : Nat) σ L, i < n → Pv i σ L → gg (.int (i : Int)) σ L fun σ2 L2 => tb ⟨Pv (i + 1), r0, n0, Pv (i + 1)⟩ σ2 L2) (hd : ∀ σ L, Pv n σ L → n0 σ L) : ForR (wkR 0 n) gg tb ⟨n0, r0, b0, c0⟩ σ L :=
  f_range Pv h0 (fun i σ L hi p => by rw [Int.zero_add]; exact hs i σ L hi p) hd
theorem f_list (Pv : Nat → St → Lg → Prop) (h0 : Wk (Pv 0 σ) L) (hG : ∀ i σ L, Pv i σ L → IsL K L p xs) (hs : ∀ i x σ L, xs[i]? = some x → Pv i σ L → gg x σ L fun σ2 L2 => tb ⟨Pv (i + 1), r0, n0, Pv (i + 1)⟩ σ2 L2) (hd : ∀ σ L, Pv xs.length σ L → n0 σ L) : ForR (wkL K p xs) gg tb ⟨n0, r0, b0, c0⟩ σ L :=
  ⟨Pv, h0, fun i σ L _ h => hG i σ L h, fun i x σ L L' hi p ⟨e1, e2⟩ => by subst e1; exact hs i x σ _ e2 p, hd⟩
theorem f_tup (Pv : Nat → St → Lg → Prop) (h0 : Wk (Pv 0 σ) L) (hG : ∀ i σ L, Pv i σ L → IsT K L p xs) (hs : ∀ i x σ L, xs[i]? = some x → Pv i σ L → gg x σ L fun σ2 L2 => tb ⟨Pv (i + 1), r0, n0, Pv (i + 1)⟩ σ2 L2) (hd : ∀ σ L, Pv xs.length σ L → n0 σ L) : ForR (wkT K p xs) gg tb ⟨n0, r0, b0, c0⟩ σ L :=
  ⟨Pv, h0, fun i σ L _ h => hG i σ L h, fun i x σ L L' hi p ⟨e1, e2⟩ => by subst e1; exact hs i x σ _ e2 p, hd⟩
theorem f_while {c : LTT} (W : Nat → St → Lg → Prop) (h0 : Wk (fun L => ∃ m, W m σ L) L) (hs : ∀ m σ L, W m σ L → c σ L fun b L1 => if b = true then tb ⟨fun σ' L' => ∃ m', m' < m ∧ W m' σ' L', r0, n0, fun σ' L' => ∃ m', m' < m ∧ W m' σ' L'⟩ σ L1 else n0 σ L1) : lWhile c tb ⟨n0, r0, b0, c0⟩ σ L := ⟨W, h0, hs⟩
/-! comprehensions by their word -/
variable {tt : LTT} {vw : List Nat} {Dl : Addr} {wi : LTI}
theorem s_lc (k : wi σ L fun W L1 => ∀ D, D ∉ keys L1 → LcR W gg tt te vw σ D L1 Q) : lLc wi gg tt te vw σ L Q := k
/-- the ends of a comprehension's turn -/
def LcY (Dl : Addr) (acc : List V) (P : List V → Lg → Prop) : LVK := fun y L4 => acc.length < sizeLine ∧ ∃ L5, Lic L4 ([(Dl, .lst acc)] :: L5) ∧ P (acc ++ [y]) L5
def LcN (Dl : Addr) (acc : List V) (P : List V → Lg → Prop) : Lg → Prop := fun L3 => ∃ L5, Lic L3 ([(Dl, .lst acc)] :: L5) ∧ P acc L5
def LcT (tt : LTT) (te : LTE) (Dl : Addr) (acc : List V) (P : List V → Lg → Prop) (σ' : St) (vw : List Nat) : St → Lg → Prop := fun σ2 L2 => wipe σ2 vw = σ' ∧ tt σ2 L2 fun b L3 => if b = true then te σ2 L3 (LcY Dl acc P) else LcN Dl acc P L3
theorem c_range (Pv : Nat → List V → Lg → Prop) {σw : St} (hw : wipe σ vw = σw) (h0 : Wk (Pv 0 []) L) (hs : ∀ i acc L, i < n → Pv i acc L → gg (.int (lo + i)) σw ([(Dl, .lst acc)] :: L) (LcT tt te Dl acc (Pv (i + 1)) σw vw)) (hd : ∀ acc L, Pv n acc L → Wk (Q (.ref Dl)) ([(Dl, .lst acc)] :: L)) : LcR (wkR lo n) gg tt te vw σ Dl L Q := by
  refine ⟨Pv, h0, fun _ _ _ _ _ => trivial, fun i acc x L L' hi p _ ⟨e1, e2⟩ => ?_, fun acc L p _ => hd acc L p⟩
  subst e1; subst e2; subst hw
  exact hs i acc _ hi p
theorem c_range0 (Pv : Nat → List V → Lg → Prop) {σw : St} (hw : wipe σ vw = σw) (h0 : Wk (Pv 0 []) L) (hs : ∀ (i : Nat) acc L, i < n → Pv i acc L → gg (.int (i : Int)) σw ([(Dl, .lst acc)] :: L) (LcT tt te Dl acc (Pv (i + 1)) σw vw)) (hd : ∀ acc L, Pv n acc L → Wk (Q (.ref Dl)) ([(Dl, .lst acc)] :: L)) : LcR (wkR 0 n) gg tt te vw σ Dl L Q :=
  c_range Pv hw h0 (fun i acc L hi p => by rw [Int.zero_add]; exact hs i acc L hi p) hd
theorem c_list (Pv : Nat → List V → Lg → Prop) {σw : St} (hw : wipe σ vw = σw) (h0 : Wk (Pv 0 []) L) (hG : ∀ i acc L, Pv i acc L → IsL K ([(Dl, .lst acc)] :: L) p xs) (hs : ∀ i acc x L, xs[i]? = some x → Pv i acc L → gg x σw ([(Dl, .lst acc)] :: L) (LcT tt te Dl acc (Pv (i + 1)) σw vw)) (hd : ∀ acc L, Pv xs.length acc L → Wk (Q (.ref Dl)) ([(Dl, .lst acc)] :: L)) : LcR (wkL K p xs) gg tt te vw σ Dl L Q := by
  refine ⟨Pv, h0, fun i acc L _ h => hG i acc L h, fun i acc x L L' hi p _ ⟨e1, e2⟩ => ?_, fun acc L p _ => hd acc L p⟩
  subst e1; subst hw
  exact hs i acc x _ e2 p
theorem s_lct {σ2 σ' : St} {acc : List V} {P : List V → Lg → Prop} (h : wipe σ2 vw = σ') (k : tt σ2 L fun b L3 => if b = true then te σ2 L3 (LcY Dl acc P) else LcN Dl acc P L3) : LcT tt te Dl acc P σ' vw σ2 L := ⟨h, k⟩
theorem s_lcy {acc : List V} {P : List V → Lg → Prop} {L5 : Lg} (hz : acc.length < 1000000) (l : Lic L ([(Dl, .lst acc)] :: L5)) (k : P (acc ++ [y]) L5) : LcY Dl acc P y L := ⟨Nat.lt_of_lt_of_le hz (by decide), L5, l, k⟩
theorem s_lcn {acc : List V} {P : List V → Lg → Prop} {L5 : Lg} (l : Lic L ([(Dl, .lst acc)] :: L5)) (k : P acc L5) : LcN Dl acc P L := ⟨L5, l, k⟩
theorem s_yes {Q : Bool → Lg → Prop} (k : Q true L) : lYes σ L Q := k
end
end VM

end

section
namespace VM
open PySem PySem.Spec L2
open PyProof.Rows hiding St

/-! ### data without truths and texts -/
def nbD : Nat → PyData → Bool
  | _, .none => true
  | _, .int _ => true
  | _, .str s => PyData.strOk s
  | n + 1, .list xs => xs.all (nbD n)
  | n + 1, .tuple xs => xs.all (nbD n)
  | _, _ => false
theorem nb_canLay : ∀ n d, nbD n d = true → d.canLay0 = true := by
  intro n
  induction n with
  | zero => intro d h; cases d <;> simp [nbD] at h <;> simp [PyData.canLay0, h]
  | succ n ih =>
    have all : ∀ xs : List PyData, xs.all (nbD n) = true → PyData.canLayAll0 xs = true := by
      intro xs
      induction xs with
      | nil => intro _; simp [PyData.canLayAll0]
      | cons x xs ihx =>
        intro h
        rw [List.all_cons, Bool.and_eq_true] at h
        simp [PyData.canLayAll0, ih x h.1, ihx h.2]
    intro d h
    cases d with
    | list xs => simp only [nbD] at h; simp [PyData.canLay0, all xs h]
    | tuple xs => simp only [nbD] at h; simp [PyData.canLay0, all xs h]
    | none => simp [PyData.canLay0]
    | int i => simp [PyData.canLay0]
    | str i => simp only [nbD] at h; simp [PyData.canLay0, h]
    | _ => simp [nbD] at h
theorem nb_depth : ∀ n d, nbD n d = true → d.depth ≤ n := by
  intro n
  induction n with
  | zero => intro d h; cases d <;> simp [nbD] at h <;> simp [PyData.depth]
  | succ n ih =>
    have all : ∀ xs : List PyData, xs.all (nbD n) = true → PyData.depthAll xs ≤ n := by
      intro xs
      induction xs with
      | nil => intro _; simp [PyData.depthAll]
      | cons x xs ihx =>
        intro h
        rw [List.all_cons, Bool.and_eq_true] at h
        have h1 := ih x h.1
        have h2 := ihx h.2
        simp only [PyData.depthAll]
        omega
    intro d h
    cases d with
    | list xs => simp only [nbD] at h; have := all xs h; simp only [PyData.depth]; omega
    | tuple xs => simp only [nbD] at h; have := all xs h; simp only [PyData.depth]; omega
    | none => simp [PyData.depth]
    | int i => simp [PyData.depth]
    | str i => simp [PyData.depth]
    | _ => simp [nbD] at h
theorem shaped_nb {n : Nat} {d : PyData} (h : nbD n d = true) (hn : n ≤ 64 := by decide) : SeqAt.shaped d = true := by
  unfold SeqAt.shaped
  rw [nb_canLay n d h, decide_eq_true (Nat.le_trans (nb_depth n d h) hn)]
  rfl
theorem eqv_nb : ∀ n m d e, nbD n d = true → nbD m e = true → (PyData.eqv d e = true ↔ d = e) := by
  intro n
  induction n with
  | zero =>
    intro m d e h h'
    cases d <;> simp [nbD] at h <;> cases e <;> cases m <;> simp [nbD] at h' <;> simp [PyData.eqv]
  | succ n ih =>
    have all : ∀ (m : Nat) (xs ys : List PyData), xs.all (nbD n) = true → ys.all (nbD m) = true → (PyData.eqvAll xs ys = true ↔ xs = ys) := by
      intro m xs
      induction xs with
      | nil => intro ys _ _; cases ys <;> simp [PyData.eqvAll]
      | cons x xs ihx =>
        intro ys h h'
        rw [List.all_cons, Bool.and_eq_true] at h
        cases ys with
        | nil => simp [PyData.eqvAll]
        | cons y ys =>
          rw [List.all_cons, Bool.and_eq_true] at h'
          simp only [PyData.eqvAll, Bool.and_eq_true, ih m x y h.1 h'.1, ihx ys h.2 h'.2, List.cons.injEq]
    intro m d e h h'
    cases d with
    | list xs =>
      cases e with
      | list ys =>
        cases m with
        | zero => simp [nbD] at h'
        | succ m =>
          simp only [nbD] at h h'
          simp only [PyData.eqv, all m xs ys h h', PyData.list.injEq]
      | _ => cases m <;> simp [nbD] at h' <;> simp [PyData.eqv]
    | tuple xs =>
      cases e with
      | tuple ys =>
        cases m with
        | zero => simp [nbD] at h'
        | succ m =>
          simp only [nbD] at h h'
          simp only [PyData.eqv, all m xs ys h h', PyData.tuple.injEq]
      | _ => cases m <;> simp [nbD] at h' <;> simp [PyData.eqv]
    | none => cases e <;> cases m <;> simp [nbD] at h' <;> simp [PyData.eqv]
    | int i => cases e <;> cases m <;> simp [nbD] at h' <;> simp [PyData.eqv]
    | str i => cases e <;> cases m <;> simp [nbD] at h' <;> simp [PyData.eqv]
    | _ => simp [nbD] at h
/-- ints, rows of ints as data -/
def dI (ns : List Int) : PyData := .list (ns.map .int)
def dT (ns : List Int) : PyData := .tuple (ns.map .int)
def dR (rows : List (List Int)) : PyData := .list (rows.map dI)
def dTs (ts : List (List Int)) : PyData := .list (ts.map dT)
theorem nb_ints (n : Nat) : ∀ ns : List Int, (ns.map PyData.int).all (nbD n) = true
  | [] => rfl
  | a :: ns => by rw [List.map_cons, List.all_cons, nb_ints n ns]; cases n <;> rfl
theorem nb_dI (ns : List Int) : nbD 1 (dI ns) = true := nb_ints 0 ns
theorem nb_dT (ns : List Int) : nbD 1 (dT ns) = true := nb_ints 0 ns
theorem nb_dR : ∀ rows : List (List Int), nbD 2 (dR rows) = true
  | [] => rfl
  | r :: rows => by
    have h : (rows.map dI).all (nbD 1) = true := nb_dR rows
    show ((dI r) :: rows.map dI).all (nbD 1) = true
    rw [List.all_cons, h, nb_dI]
    rfl
theorem nb_dTs : ∀ rows : List (List Int), nbD 2 (dTs rows) = true
  | [] => rfl
  | r :: rows => by
    have h : (rows.map dT).all (nbD 1) = true := nb_dTs rows
    show ((dT r) :: rows.map dT).all (nbD 1) = true
    rw [List.all_cons, h, nb_dT]
    rfl
theorem ints_inj : ∀ {ns ms : List Int}, ns.map PyData.int = ms.map PyData.int → ns = ms
  | [], [], _ => rfl
  | [], _ :: _, h => by simp at h
  | _ :: _, [], h => by simp at h
  | a :: ns, b :: ms, h => by
    simp only [List.map_cons, List.cons.injEq, PyData.int.injEq] at h
    rw [h.1, ints_inj h.2]
theorem dI_inj {ns ms : List Int} (h : dI ns = dI ms) : ns = ms := ints_inj (PyData.list.inj h)
theorem dT_inj {ns ms : List Int} (h : dT ns = dT ms) : ns = ms := ints_inj (PyData.tuple.inj h)
theorem dR_inj : ∀ {ns ms : List (List Int)}, dR ns = dR ms → ns = ms
  | [], [], _ => rfl
  | [], _ :: _, h => by simp [dR] at h
  | _ :: _, [], h => by simp [dR] at h
  | a :: ns, b :: ms, h => by
    simp only [dR, List.map_cons, PyData.list.injEq, List.cons.injEq] at h
    rw [dI_inj h.1, dR_inj (congrArg PyData.list h.2)]
theorem dTs_inj : ∀ {ns ms : List (List Int)}, dTs ns = dTs ms → ns = ms
  | [], [], _ => rfl
  | [], _ :: _, h => by simp [dTs] at h
  | _ :: _, [], h => by simp [dTs] at h
  | a :: ns, b :: ms, h => by
    simp only [dTs, List.map_cons, PyData.list.injEq, List.cons.injEq] at h
    rw [dT_inj h.1, dTs_inj (congrArg PyData.list h.2)]
theorem dec_of_iff {b : Bool} {p : Prop} [Decidable p] (h : b = true ↔ p) : b = decide p := by
  by_cases q : p
  · rw [decide_eq_true q]; exact h.mpr q
  · rw [decide_eq_false q]; cases b
    · rfl
    · exact absurd (h.mp rfl) q
theorem eqv_dI (ns ms : List Int) : PyData.eqv (dI ns) (dI ms) = decide (ns = ms) := dec_of_iff ((eqv_nb 1 1 _ _ (nb_dI ns) (nb_dI ms)).trans ⟨dI_inj, fun h => h ▸ rfl⟩)
theorem eqv_dT (ns ms : List Int) : PyData.eqv (dT ns) (dT ms) = decide (ns = ms) := dec_of_iff ((eqv_nb 1 1 _ _ (nb_dT ns) (nb_dT ms)).trans ⟨dT_inj, fun h => h ▸ rfl⟩)
theorem eqv_dR (ns ms : List (List Int)) : PyData.eqv (dR ns) (dR ms) = decide (ns = ms) := dec_of_iff ((eqv_nb 2 2 _ _ (nb_dR ns) (nb_dR ms)).trans ⟨dR_inj, fun h => h ▸ rfl⟩)
theorem eqv_dTs (ns ms : List (List Int)) : PyData.eqv (dTs ns) (dTs ms) = decide (ns = ms) := dec_of_iff ((eqv_nb 2 2 _ _ (nb_dTs ns) (nb_dTs ms)).trans ⟨dTs_inj, fun h => h ▸ rfl⟩)

/-! ### data in the ledger -/
section
variable {K : PySem.W.Frag} {L : Lg} {p q : Addr} {ns ms : List Int} {Q : LVK}
theorem dpAll_ints {K : PySem.W.Frag} {H : Hp} : ∀ ns : List Int, DpAll K H (ns.map V.int) (ns.map PyData.int)
  | [] => .nil
  | a :: ns => .cons (.int a) (dpAll_ints ns)
theorem DpL.ints (h : IsL K L p (ns.map V.int)) : DpL K L (.ref p) (dI ns) := fun H l => .lst (h H l) (dpAll_ints ns)
theorem DpL.tints (h : IsT K L p (ns.map V.int)) : DpL K L (.ref p) (dT ns) := fun H l => .tup (h H l) (dpAll_ints ns)
theorem s_ix_iv {xs : List V} {i : Int} (h : IsL K L p xs) (e : IntsV xs ns) (h0 : 0 ≤ i) (h1 : i < ns.length) (k : Q (.int (ns.getD i.toNat 0)) L) : gIx K (.ref p) (.int i) L Q := s_ix_ints (e.eq ▸ h) h0 h1 k
theorem s_ix_tv {xs : List V} {i : Int} (h : IsT K L p xs) (e : IntsV xs ns) (h0 : 0 ≤ i) (h1 : i < ns.length) (k : Q (.int (ns.getD i.toNat 0)) L) : gIx K (.ref p) (.int i) L Q := s_ix_tints (e.eq ▸ h) h0 h1 k
theorem s_eq_iv {xs ys : List V} (h1 : IsL K L p xs) (h2 : IsL K L q ys) (e1 : IntsV xs ns) (e2 : IntsV ys ms) (k : Q (.bl (decide (ns = ms))) L) : gEq K (.ref p) (.ref q) L Q := s_eq_d (DpL.ints (e1.eq ▸ h1)) (DpL.ints (e2.eq ▸ h2)) (shaped_nb (nb_dI _)) (shaped_nb (nb_dI _)) (by rw [eqv_dI]; exact k)
theorem s_ne_iv {xs ys : List V} (h1 : IsL K L p xs) (h2 : IsL K L q ys) (e1 : IntsV xs ns) (e2 : IntsV ys ms) (k : Q (.bl (!decide (ns = ms))) L) : gNe K (.ref p) (.ref q) L Q := s_ne_d (DpL.ints (e1.eq ▸ h1)) (DpL.ints (e2.eq ▸ h2)) (shaped_nb (nb_dI _)) (shaped_nb (nb_dI _)) (by rw [eqv_dI]; exact k)
theorem s_eq_tv {xs ys : List V} (h1 : IsT K L p xs) (h2 : IsT K L q ys) (e1 : IntsV xs ns) (e2 : IntsV ys ms) (k : Q (.bl (decide (ns = ms))) L) : gEq K (.ref p) (.ref q) L Q := s_eq_d (DpL.tints (e1.eq ▸ h1)) (DpL.tints (e2.eq ▸ h2)) (shaped_nb (nb_dT _)) (shaped_nb (nb_dT _)) (by rw [eqv_dT]; exact k)
theorem s_ne_tv {xs ys : List V} (h1 : IsT K L p xs) (h2 : IsT K L q ys) (e1 : IntsV xs ns) (e2 : IntsV ys ms) (k : Q (.bl (!decide (ns = ms))) L) : gNe K (.ref p) (.ref q) L Q := s_ne_d (DpL.tints (e1.eq ▸ h1)) (DpL.tints (e2.eq ▸ h2)) (shaped_nb (nb_dT _)) (shaped_nb (nb_dT _)) (by rw [eqv_dT]; exact k)
theorem s_eq_ints (h1 : IsL K L p (ns.map V.int)) (h2 : IsL K L q (ms.map V.int)) (k : Q (.bl (decide (ns = ms))) L) : gEq K (.ref p) (.ref q) L Q := s_eq_d (DpL.ints h1) (DpL.ints h2) (shaped_nb (nb_dI _)) (shaped_nb (nb_dI _)) (by rw [eqv_dI]; exact k)
theorem s_ne_ints (h1 : IsL K L p (ns.map V.int)) (h2 : IsL K L q (ms.map V.int)) (k : Q (.bl (!decide (ns = ms))) L) : gNe K (.ref p) (.ref q) L Q := s_ne_d (DpL.ints h1) (DpL.ints h2) (shaped_nb (nb_dI _)) (shaped_nb (nb_dI _)) (by rw [eqv_dI]; exact k)
theorem s_eq_tints (h1 : IsT K L p (ns.map V.int)) (h2 : IsT K L q (ms.map V.int)) (k : Q (.bl (decide (ns = ms))) L) : gEq K (.ref p) (.ref q) L Q := s_eq_d (DpL.tints h1) (DpL.tints h2) (shaped_nb (nb_dT _)) (shaped_nb (nb_dT _)) (by rw [eqv_dT]; exact k)
theorem s_ne_tints (h1 : IsT K L p (ns.map V.int)) (h2 : IsT K L q (ms.map V.int)) (k : Q (.bl (!decide (ns = ms))) L) : gNe K (.ref p) (.ref q) L Q := s_ne_d (DpL.tints h1) (DpL.tints h2) (shaped_nb (nb_dT _)) (shaped_nb (nb_dT _)) (by rw [eqv_dT]; exact k)
end

/-! ### a volume: a list of rows, lists of ints, each its own object -/
def cellsL (as : List Addr) (rows : List (List Int)) : Chunk := (as.zip rows).map fun x => (x.1, HO.lst (x.2.map V.int))
def volC (p : Addr) (as : List Addr) (rows : List (List Int)) : Chunk := (p, .lst (as.map V.ref)) :: cellsL as rows
theorem cells_split : ∀ {as : List Addr} {rows : List (List Int)} {i : Nat} {a : Addr} {r : List Int}, as[i]? = some a → rows[i]? = some r →
    ∃ A B, cellsL as rows = A ++ (a, .lst (r.map V.int)) :: B ∧ ∀ r' : List Int, cellsL as (rows.set i r') = A ++ (a, .lst (r'.map V.int)) :: B
  | [], _, _, _, _, h, _ => by simp at h
  | _ :: _, [], _, _, _, _, h => by simp at h
  | a :: as, r :: rows, 0, a', r', h1, h2 => by
    simp only [List.getElem?_cons_zero, Option.some.injEq] at h1 h2
    subst h1; subst h2
    exact ⟨[], cellsL as rows, rfl, fun r' => rfl⟩
  | a :: as, r :: rows, i + 1, a', r', h1, h2 => by
    simp only [List.getElem?_cons_succ] at h1 h2
    obtain ⟨A, B, e1, e2⟩ := cells_split h1 h2
    refine ⟨(a, .lst (r.map V.int)) :: A, B, ?_, fun r'' => ?_⟩
    · show (a, HO.lst (r.map V.int)) :: cellsL as rows = _
      rw [e1]; rfl
    · show (a, HO.lst (r.map V.int)) :: cellsL as (rows.set i r'') = _
      rw [e2]; rfl
theorem cells_mem {as : List Addr} {rows : List (List Int)} {i : Nat} {a : Addr} {r : List Int} (h1 : as[i]? = some a) (h2 : rows[i]? = some r) : (a, HO.lst (r.map V.int)) ∈ cellsL as rows := by
  obtain ⟨A, B, e, _⟩ := cells_split h1 h2
  rw [e]; simp
section
variable {K : PySem.W.Frag} {L L' : Lg} {p q a : Addr} {as : List Addr} {rows : List (List Int)} {i : Nat} {r r' : List Int}
theorem vol_top (h : volC p as rows ∈ L) : At L p (.lst (as.map V.ref)) := At.mem h List.mem_cons_self
theorem vol_row (h : volC p as rows ∈ L) (h1 : as[i]? = some a) (h2 : rows[i]? = some r) : At L a (.lst (r.map V.int)) := At.mem h (List.mem_cons_of_mem _ (cells_mem h1 h2))
theorem Wr.vol (h1 : as[i]? = some a) (h2 : rows[i]? = some r) : Wr a (.lst (r.map V.int)) (.lst (r'.map V.int)) (volC p as rows :: L) (volC p as (rows.set i r') :: L) := by
  obtain ⟨A, B, e1, e2⟩ := cells_split h1 h2
  unfold volC
  rw [e1, e2 r']
  exact Wr.hd (A := (p, .lst (as.map V.ref)) :: A) (B := B)
theorem dpAll_vol {H : Hp} : ∀ {as : List Addr} {rows : List (List Int)}, as.length = rows.length → (∀ (i : Nat) (a : Addr) (r : List Int), as[i]? = some a → rows[i]? = some r → H a = some (.lst (r.map V.int))) → DpAll K H (as.map V.ref) (rows.map dI)
  | [], [], _, _ => .nil
  | [], _ :: _, h, _ => by simp at h
  | _ :: _, [], h, _ => by simp at h
  | a :: as, r :: rows, h, hr => .cons (.lst (.inl (.inl (hr 0 a r rfl rfl))) (dpAll_ints r)) (dpAll_vol (by simpa using h) fun i a r h1 h2 => hr (i + 1) a r h1 h2)
theorem DpL.vol (h : volC p as rows ∈ L) (hl : as.length = rows.length) : DpL K L (.ref p) (dR rows) := fun H l =>
  .lst (IsL.at_ (vol_top h) H l) (dpAll_vol hl fun i a r h1 h2 => vol_row h h1 h2 H l)
variable {Q : LVK} {bs : List Addr} {rows' : List (List Int)}
theorem s_eq_vol (h1 : volC p as rows ∈ L) (h2 : volC q bs rows' ∈ L) (l1 : as.length = rows.length) (l2 : bs.length = rows'.length) (k : Q (.bl (decide (rows = rows'))) L) : gEq K (.ref p) (.ref q) L Q :=
  s_eq_d (DpL.vol h1 l1) (DpL.vol h2 l2) (shaped_nb (nb_dR _)) (shaped_nb (nb_dR _)) (by rw [eqv_dR]; exact k)
theorem s_ne_vol (h1 : volC p as rows ∈ L) (h2 : volC q bs rows' ∈ L) (l1 : as.length = rows.length) (l2 : bs.length = rows'.length) (k : Q (.bl (!decide (rows = rows'))) L) : gNe K (.ref p) (.ref q) L Q :=
  s_ne_d (DpL.vol h1 l1) (DpL.vol h2 l2) (shaped_nb (nb_dR _)) (shaped_nb (nb_dR _)) (by rw [eqv_dR]; exact k)
/-- the row of a volume at a place -/
def rowAt (rows : List (List Int)) (i : Int) : List Int := rows.getD i.toNat []
def adrAt (as : List Addr) (i : Int) : Addr := as.getD i.toNat 0
theorem get_adr {j : Int} (h0 : 0 ≤ j) (h1 : j < as.length) : as[j.toNat]? = some (adrAt as j) := by
  have hn : j.toNat < as.length := by omega
  simp [adrAt, List.getD_eq_getElem?_getD, List.getElem?_eq_getElem hn]
theorem get_row {j : Int} (h0 : 0 ≤ j) (h1 : j < rows.length) : rows[j.toNat]? = some (rowAt rows j) := by
  have hn : j.toNat < rows.length := by omega
  simp [rowAt, List.getD_eq_getElem?_getD, List.getElem?_eq_getElem hn]
theorem s_ix_vol {j : Int} (h : volC p as rows ∈ L) (h0 : 0 ≤ j) (h1 : j < as.length) (k : Q (.ref (adrAt as j)) L) : gIx K (.ref p) (.int j) L Q := by
  refine s_ix_l (IsL.at_ (vol_top h)) (v := .ref (adrAt as j)) ?_ k
  obtain ⟨n, rfl⟩ : ∃ n : Nat, j = n := ⟨j.toNat, by omega⟩
  refine atI_nat ?_
  have := get_adr (as := as) h0 h1
  simp only [Int.toNat_natCast] at this
  rw [List.getElem?_map, this]
  rfl
theorem row_at {j : Int} (h : volC p as rows ∈ L) (hl : as.length = rows.length) (h0 : 0 ≤ j) (h1 : j < as.length) : At L (adrAt as j) (.lst ((rowAt rows j).map V.int)) := vol_row h (get_adr h0 h1) (get_row h0 (by omega))
theorem lic_vol {as : List Addr} : Lic ([(p, .lst (as.map V.ref))] :: cellsL as rows :: L) (volC p as rows :: L) := Lic.flat (by simp [volC])
theorem lic_cells_new {as : List Addr} (hl : as.length = rows.length) : Lic ([(a, .lst (r.map V.int))] :: cellsL as rows :: L) (cellsL (as ++ [a]) (rows ++ [r]) :: L) := Lic.permFlat (by
  have e : cellsL (as ++ [a]) (rows ++ [r]) = cellsL as rows ++ [(a, .lst (r.map V.int))] := by
    unfold cellsL
    rw [List.zip_append hl, List.map_append]
    rfl
  simp only [List.flatten_cons, e, List.append_assoc, List.singleton_append]
  exact List.perm_middle)
theorem lic_cells_nil : Lic L (cellsL [] [] :: L) := Lic.flat (by simp [cellsL])
theorem lic_turn {as : List Addr} {o : HO} (hl : as.length = rows.length) : Lic ([(a, .lst (r.map V.int))] :: [(p, o)] :: cellsL as rows :: L) ([(p, o)] :: cellsL (as ++ [a]) (rows ++ [r]) :: L) := Lic.permFlat (by
  have e : cellsL (as ++ [a]) (rows ++ [r]) = cellsL as rows ++ [(a, .lst (r.map V.int))] := by
    unfold cellsL
    rw [List.zip_append hl, List.map_append]
    rfl
  simp only [List.flatten_cons, e, List.append_assoc, List.singleton_append, List.cons_append, List.nil_append]
  exact (List.Perm.cons _ List.perm_middle).trans (List.Perm.swap _ _ _))
/-- one number of a row changed -/
def putAt (rows : List (List Int)) (j : Int) (n : Nat) (v : Int) : List (List Int) := rows.set j.toNat ((rowAt rows j).set n v)
theorem Wr.volset {j : Int} {n : Nat} {v : Int} (hl : as.length = rows.length) (h0 : 0 ≤ j) (h1 : j < as.length) : Wr (adrAt as j) (.lst ((rowAt rows j).map V.int)) (.lst (((rowAt rows j).set n v).map V.int)) (volC p as rows :: L) (volC p as (putAt rows j n v) :: L) :=
  Wr.vol (get_adr h0 h1) (get_row h0 (by omega))
theorem putAt_len {j : Int} {n : Nat} {v : Int} : (putAt rows j n v).length = rows.length := by unfold putAt; simp
theorem s_set_vol {j i v : Int} {Q : Lg → Prop} (hl : as.length = rows.length) (h0 : 0 ≤ j) (h1 : j < as.length) (h2 : 0 ≤ i) (h3 : i < (rowAt rows j).length) (k : Q (volC p as (putAt rows j i.toNat v) :: L)) : gSet (.ref (adrAt as j)) (.int i) (.int v) (volC p as rows :: L) Q := s_set_i (Wr.volset hl h0 h1) (ixN_pos h2 h3) k
theorem rowAt_mem {j : Int} (h0 : 0 ≤ j) (h1 : j < rows.length) : rowAt rows j ∈ rows := List.mem_of_getElem? (get_row h0 h1)
theorem rowAt_len {m : Nat} {j : Int} (h8 : ∀ r ∈ rows, r.length = m) (h0 : 0 ≤ j) (h1 : j < rows.length) : (rowAt rows j).length = m := h8 _ (rowAt_mem h0 h1)
theorem putAt_all {m : Nat} {j : Int} {n : Nat} {v : Int} (h8 : ∀ r ∈ rows, r.length = m) (h0 : 0 ≤ j) (h1 : j < rows.length) : ∀ r ∈ putAt rows j n v, r.length = m := fun r hr => by
  unfold putAt at hr
  rcases List.mem_or_eq_of_mem_set hr with h | h
  · exact h8 r h
  · rw [h, List.length_set]; exact rowAt_len h8 h0 h1
/-- rows copied: [list(row) for row in volume] -/
theorem s_copy {σ : St} {i j : Nat} {bs : List Addr} {Q : LVK} (hv : σ[i]? = some (some (.ref p))) (hm : volC p bs rows ∈ L) (hl : bs.length = rows.length) (hz : rows.length ≤ 1000000) (hj0 : j < σ.length)
    (k : ∀ D as, as.length = rows.length → Q (.ref D) (volC D as rows :: L)) : lLc (kSeq K (lVar i)) (hName j) lYes (lCB (gList K) (lCons (lVar j) lNil)) [j] σ L Q := by
  obtain ⟨σw, hw⟩ : ∃ σw, wipe σ [j] = σw := ⟨_, rfl⟩
  have hj : j < σw.length := by rw [← hw, wipe_length]; exact hj0
  have hw2 : ∀ x, wipe (σw.set j (some x)) [j] = σw := fun x => by
    rw [← hw]
    show ((σ.set j none).set j (some x)).set j none = σ.set j none
    rw [List.set_set, List.set_set]
  refine ⟨.ref p, hv, p, _, rfl, .inl ⟨IsL.at_ (vol_top hm), fun D hD => ?_⟩⟩
  refine c_list (fun n acc L' => ∃ as : List Addr, acc = as.map V.ref ∧ as.length = n ∧ n ≤ rows.length ∧ L' = cellsL as (rows.take n) :: L) hw ?_ ?_ ?_ ?_
  · exact Wk.by_ lic_cells_nil ⟨[], rfl, rfl, Nat.zero_le _, by simp⟩
  · rintro n acc L' ⟨as, rfl, ha, hn, rfl⟩
    exact IsL.tl (IsL.tl (IsL.at_ (vol_top hm)))
  · rintro n acc x L' hx ⟨as, rfl, ha, hn, rfl⟩
    obtain ⟨b, hb, rfl⟩ : ∃ b, bs[n]? = some b ∧ V.ref b = x := by
      rw [List.getElem?_map] at hx
      exact Option.map_eq_some_iff.mp hx
    have hnb : n < bs.length := (List.getElem?_eq_some_iff.mp hb).1
    obtain ⟨r, hr⟩ : ∃ r, rows[n]? = some r := ⟨_, List.getElem?_eq_getElem (by omega)⟩
    refine s_name (σ' := σw.set j (some (.ref b))) ?_ ?_
    · have : ∀ (σ : St) (j : Nat) (v : V), j < σ.length → SetAt v σ j (σ.set j (some v)) := by
        intro σ
        induction σ with
        | nil => intro j v h; simp at h
        | cons x σ ih =>
          intro j v h
          cases j with
          | zero => exact .hd
          | succ j => exact .tl (ih j v (by simpa using h))
      exact this _ _ _ hj
    · refine s_lct (hw2 _) ?_
      refine s_yes ?_
      rw [if_pos rfl]
      refine s_cb (s_cons (s_var (v := .ref b) (by rw [List.getElem?_set_self hj]) (s_nil ?_)))
      refine s_list_l (xs := r.map V.int) (IsL.tl (IsL.tl (IsL.at_ (vol_row hm hb hr)))) fun a => ?_
      refine s_lcy (L5 := cellsL (as ++ [a]) (rows.take n ++ [r]) :: L) ?_ (lic_turn (by simp; omega)) ⟨as ++ [a], by simp, by simp [ha], by omega, ?_⟩
      · rw [List.length_map, ha]; omega
      · have : rows.take (n + 1) = rows.take n ++ [r] := by rw [List.take_succ, hr]; rfl
        rw [this]
  · rintro acc L' ⟨as, rfl, ha, hn, rfl⟩
    refine Wk.by_ ?_ (k D as (by rw [ha]; simp; omega))
    have : rows.take (bs.map V.ref).length = rows := by rw [List.length_map, hl]; simp
    rw [this]
    exact lic_vol
end
end VM
namespace VM
open PySem PySem.Spec L2
open PyProof.Rows hiding St
/-- the law's start: the script as a chunk -/
theorem law_up {K : PySem.W.Frag} {H : Hp} {a : Addr} {ns : List Int} {sp : LSp} (hS : SqL K H a (ns.map V.int)) (h : ∀ c, Scr K c a ns → sp [.ref a] [c] (fun v _ => v = .bl true) noX) : UpP sp [.ref a] H (fun v _ => v = .bl true) fun _ _ _ => False := by
  have go : ∀ c : Chunk, Led H [c] → Scr K c a ns → UpP sp [.ref a] H (fun v _ => v = .bl true) fun _ _ _ => False := fun c l s =>
    ⟨[c], _, _, l, h c s, fun _ _ _ q _ => q, fun _ _ _ _ q _ => q⟩
  have one : ∀ o : HO, H a = some o → Led H [[(a, o)]] := fun o e => ⟨fun c hc x hx => by
    obtain rfl := List.mem_singleton.mp hc
    obtain rfl := List.mem_singleton.mp hx
    exact e, by simp [keys]⟩
  rcases hS with (e | ⟨o, e⟩) | e
  · exact go _ (one _ e) fun H' l => .inl (.inl (l.get _ List.mem_cons_self _ List.mem_cons_self))
  · exact go _ (one _ e) fun H' l => .inl (.inr ⟨o, l.get _ List.mem_cons_self _ List.mem_cons_self⟩)
  · exact go [] ⟨fun c hc x hx => (by obtain rfl := List.mem_singleton.mp hc; cases hx), by simp [keys]⟩ fun H' l => .inr e
/-- what a law promises of its script -/
def spTrue (K : PySem.W.Frag) (n : Nat) : LSp := sp1 fun a L Q => ∃ c p ns, a = .ref p ∧ Scr K c p ns ∧ c ∈ L ∧ ns.length ≤ n ∧ ∀ L', Q (.bl true) L'
theorem law_says {K : PySem.W.Frag} {n : Nat} {H : Hp} {a : Addr} {ns : List Int} (hl : ns.length ≤ n) (hS : SqL K H a (ns.map V.int)) : UpP (spTrue K n) [.ref a] H (fun v _ => v = .bl true) fun _ _ _ => False :=
  law_up hS fun c s => ⟨_, rfl, c, a, ns, rfl, s, List.mem_cons_self, hl, fun _ => rfl⟩
end VM

end

section
namespace VM
open PySem PySem.Spec L2
open PyProof.Rows hiding St
/-! ### the rules with the written part named -/
section
variable {X : Cx} (K : PySem.W.Frag)
theorem ko_add (h : X.K = K := by rfl) : OpL X (binaryOp .Add) (gAdd K) := by subst h; exact lo_add
theorem ko_eq (hu : X.A.units + 64 < cLine) (h : X.K = K := by rfl) : OpL X (compareOp .Eq) (gEq K) := by subst h; exact lo_eq hu
theorem ko_ne (hu : X.A.units + 64 < cLine) (h : X.K = K := by rfl) : OpL X (compareOp .NotEq) (gNe K) := by subst h; exact lo_ne hu
theorem ko_in (hu : X.A.units + 64 < cLine) (h : X.K = K := by rfl) : OpL X (compareOp .In) (gIn K false) := by subst h; exact lo_in hu
theorem ko_notIn (hu : X.A.units + 64 < cLine) (h : X.K = K := by rfl) : OpL X (compareOp .NotIn) (gIn K true) := by subst h; exact lo_notIn hu
theorem kx_ix (hu : X.A.units + 64 < cLine) (h : X.K = K := by rfl) : IxL X (gIx K) := by subst h; exact lx_ix hu
theorem ksl_ok (h : X.K = K := by rfl) : SlL X (gSl K) := by subst h; exact lsl_ok
theorem kk_len (h : X.K = K := by rfl) : CallL X (.builtin "len") (gLen K) := by subst h; exact lk_len
theorem kk_list (h : X.K = K := by rfl) : CallL X (.type "list") (gList K) := by subst h; exact lk_list
theorem kk_tuple (h : X.K = K := by rfl) : CallL X (.type "tuple") (gTuple K) := by subst h; exact lk_tuple
theorem kk_sum (hc : X.calm = true := by rfl) (h : X.K = K := by rfl) : CallL X (.builtin "sum") (gSum K) := by subst h; exact lk_sum hc
theorem kk_all (hc : X.calm = true := by rfl) (h : X.K = K := by rfl) : CallL X (.builtin "all") (gAll K) := by subst h; exact lk_all hc
theorem kk_isi (h : X.K = K := by rfl) : CallL X (.builtin "isinstance") (lIsi K) := by subst h; exact lk_isi
variable {a e o : Expr} {es : List Expr} {ta te to : LTE} {tr : LTA} {pos apos cpos pos' : Pos} {f name : Str} {id T : String} {tg : Expr}
theorem kfld (he : LE X e te) (hb : attributeBase e f X.env (eval e X.env) = eval e X.env := by rfl) (h : X.K = K := by rfl) : LE X (.Attribute e f pos) (lFld K te f) := by subst h; exact lfld he hb
theorem kt_truth (ha : LE X a ta) (he : ∀ whole, isTrue a X.env whole = (do let v ← whole; standAt a.pos; holding [v] (truthy v)) := by intro _; rfl) (h : X.K = K := by rfl) : LT X a (lTru (gTru K) ta) := by subst h; exact lt_truth ha he
theorem kbm0 {r : V → LRC} (pa : PlainAttrs T) (slot : Slot T name id) (hty : typeOf (.builtin id) = pure (.type "method_descriptor")) (hm : MtL X id r) (ho : LE X o to)
    (hbase : attributeBase o name X.env (eval o X.env) = eval o X.env := by rfl) (hline : (apos.endLine == cpos.line) = true := by rfl) (h : X.K = K := by rfl) : LE X (.Call (.Attribute o name apos) [] [] cpos) (lBM0 K T r to) := by subst h; exact lbm0 pa slot hty hm ho hbase hline
theorem kbm {r : V → LRC} (pa : PlainAttrs T) (slot : Slot T name id) (hty : typeOf (.builtin id) = pure (.type "method_descriptor")) (hm : MtL X id r) (ho : LE X o to) (ha : LA X (e :: es) tr)
    (hbase : attributeBase o name X.env (eval o X.env) = eval o X.env := by rfl)
    (hfew : ((backTo cpos (starEach (e :: es) X.env)).all (fun x => !x.1) && (backToKw cpos (keywordEach [] X.env)).all (fun x => x.1.isSome)
      && decide ((e :: es).length + ([] : List Keyword).length + (if ([] : List Keyword).isEmpty then 0 else 1) < 30)) = true := by rfl)
    (hline : (apos.endLine == cpos.line) = true := by rfl) (hs : starEach (e :: es) X.env = (false, eval e X.env) :: starEach es X.env := by rfl) (hplain : (backTo cpos (starEach es X.env)).any (·.1) = false := by rfl) (h : X.K = K := by rfl) :
    LE X (.Call (.Attribute o name apos) (e :: es) [] cpos) (lBM K T r to tr) := by subst h; exact lbm pa slot hty hm ho ha hbase hfew hline hs hplain
theorem kg_tup {es : List Expr} {k : Nat} {n : Nat} {gs : LTGs} (hc : X.calm = true) (h : LGs X es gs) (hn : (assignEach es X.env).length = n := by rfl) (hst : (assignEach es X.env).findIdx? (·.1) = none := by rfl) (hK : X.K = K := by rfl) : LG X (.Tuple es k pos) (hTup K n gs) := by subst hK; exact lg_tup hc h hn hst
theorem ki_list {l : Expr} {tl : LTE} (hl : LE X l tl) (h : X.K = K := by rfl) : LI X tg l (kSeq K tl) := by subst h; exact li_list hl
theorem ki_tup {l : Expr} {tl : LTE} (hl : LE X l tl) (h : X.K = K := by rfl) : LI X tg l (kTup K tl) := by subst h; exact li_tup hl
theorem ks_fld {o value : Expr} {f : Str} {ta tv : LTE} {pos' : Pos} (ha : LE X o ta) (hv : LE X value tv) (hs : swapsWith value (some (.Attribute o f pos')) pos.line X.env = pure false := by rfl) (h : X.K = K := by rfl) : LS X (.Assign [.Attribute o f pos'] value pos) (lSetF K ta tv f) := by subst h; exact ls_fld ha hv hs
end
end VM

end

section
namespace VM
open PySem PySem.Spec L2
open PyProof.Rows hiding St

/-! ### the ledger told anew -/
def LicS (L L' : Lg) : Prop := ∃ M, L.flatten.Perm (L'.flatten ++ M)
theorem LicS.lic {L L' : Lg} (h : LicS L L') : Lic L L' := fun H l => by
  obtain ⟨M, s⟩ := h
  refine l.sub (fun c hc x hx => ?_) ?_
  · have hm : x ∈ L.flatten := s.mem_iff.mpr (List.mem_append_left _ (List.mem_flatten.mpr ⟨c, hc, hx⟩))
    obtain ⟨d, hd, hx'⟩ := List.mem_flatten.mp hm
    exact ⟨d, hd, hx'⟩
  · have := (s.map Prod.fst).nodup_iff.mp l.nd
    rw [List.map_append] at this
    exact (List.nodup_append.mp this).1
theorem LicS.refl {L : Lg} : LicS L L := ⟨[], by simp⟩
theorem LicS.nil {L : Lg} : LicS L [] := ⟨L.flatten, by simp⟩
theorem LicS.skip {c : Chunk} {L L' : Lg} (h : LicS L L') : LicS (c :: L) L' := by
  obtain ⟨M, s⟩ := h
  refine ⟨c ++ M, ?_⟩
  rw [List.flatten_cons]
  refine (s.append_left c).trans ?_
  rw [← List.append_assoc, ← List.append_assoc]
  exact (List.perm_append_comm).append_right M
theorem LicS.cons {c : Chunk} {L L' : Lg} (h : LicS L L') : LicS (c :: L) (c :: L') := by
  obtain ⟨M, s⟩ := h
  refine ⟨M, ?_⟩
  rw [List.flatten_cons, List.flatten_cons, List.append_assoc]
  exact s.append_left c
theorem LicS.trans {L L' L'' : Lg} (h : LicS L L') (h' : LicS L' L'') : LicS L L'' := by
  obtain ⟨M, s⟩ := h
  obtain ⟨N, t⟩ := h'
  refine ⟨N ++ M, ?_⟩
  rw [← List.append_assoc]
  exact s.trans (t.append_right M)
inductive Pull (c : Chunk) : Lg → Lg → Prop
  | hd {L : Lg} : Pull c (c :: L) L
  | tl {d : Chunk} {L L' : Lg} (h : Pull c L L') : Pull c (d :: L) (d :: L')
theorem Pull.perm {c : Chunk} {L R : Lg} (h : Pull c L R) : L.flatten.Perm (c ++ R.flatten) := by
  induction h with
  | hd => rw [List.flatten_cons]
  | tl _ ih =>
    rw [List.flatten_cons, List.flatten_cons, ← List.append_assoc]
    refine (ih.append_left _).trans ?_
    rw [← List.append_assoc]
    exact (List.perm_append_comm).append_right _
theorem LicS.pull {c : Chunk} {L R T : Lg} (h : Pull c L R) (k : LicS R T) : LicS L (c :: T) := by
  obtain ⟨M, s⟩ := k
  refine ⟨M, ?_⟩
  rw [List.flatten_cons, List.append_assoc]
  exact h.perm.trans (s.append_left c)
theorem LicS.of_flat {L L' : Lg} (s : L'.flatten = L.flatten) : LicS L L' := ⟨[], by rw [s]; simp⟩
theorem LicS.split {x : Cell} {c : Chunk} {L T : Lg} (h : LicS L ([x] :: c :: T)) : LicS L ((x :: c) :: T) := h.trans (.of_flat (by simp))
theorem LicS.splitA {a b : Chunk} {L T : Lg} (h : LicS L (a :: b :: T)) : LicS L ((a ++ b) :: T) := h.trans (.of_flat (by simp))
theorem LicS.src {x : Cell} {c : Chunk} {L T : Lg} (h : LicS ([x] :: c :: L) T) : LicS ((x :: c) :: L) T := LicS.trans (.of_flat (by simp)) h
theorem LicS.srcA {a b : Chunk} {L T : Lg} (h : LicS (a :: b :: L) T) : LicS ((a ++ b) :: L) T := LicS.trans (.of_flat (by simp)) h
theorem LicS.empty {L T : Lg} (h : LicS L T) : LicS L ([] :: T) := h.trans (.of_flat (by simp))
theorem cells_snoc {as : List Addr} {rows : List (List Int)} {a : Addr} {r : List Int} (hl : as.length = rows.length) : cellsL (as ++ [a]) (rows ++ [r]) = cellsL as rows ++ [(a, .lst (r.map V.int))] := by
  unfold cellsL
  rw [List.zip_append hl, List.map_append]
  rfl
theorem LicS.row {as : List Addr} {rows : List (List Int)} {a : Addr} {r : List Int} {L T : Lg} (hl : as.length = rows.length) (h : LicS L ([(a, .lst (r.map V.int))] :: cellsL as rows :: T)) : LicS L (cellsL (as ++ [a]) (rows ++ [r]) :: T) := by
  rw [cells_snoc hl]
  refine h.trans ⟨[], ?_⟩
  rw [List.flatten_cons, List.flatten_cons, List.flatten_cons, ← List.append_assoc, List.append_nil]
  exact (List.perm_append_comm).append_right _
theorem LicS.rows0 {L T : Lg} (h : LicS L T) : LicS L (cellsL [] [] :: T) := LicS.empty h
theorem LicS.vol {p : Addr} {as : List Addr} {rows : List (List Int)} {L T : Lg} (h : LicS L ([(p, .lst (as.map V.ref))] :: cellsL as rows :: T)) : LicS L (volC p as rows :: T) := h.trans (.of_flat (by simp [volC]))
theorem LicS.unvol {p : Addr} {as : List Addr} {rows : List (List Int)} {L T : Lg} (h : LicS ([(p, .lst (as.map V.ref))] :: cellsL as rows :: L) T) : LicS (volC p as rows :: L) T := LicS.trans (.of_flat (by simp [volC])) h

/-! ### a comprehension within one -/
theorem relabel_lookup {env : Env} : ∀ {names : List (Str × NameKind)} {x : Str}, names.lookup x = some .cell ∨ names.lookup x = some .free →
    (names.map fun (n, k) => if (k == NameKind.free && env.scope.kind == .function && env.kindOf n == some .cell) then (n, NameKind.cell) else (n, k)).lookup x = some .cell ∨
    (names.map fun (n, k) => if (k == NameKind.free && env.scope.kind == .function && env.kindOf n == some .cell) then (n, NameKind.cell) else (n, k)).lookup x = some .free
  | [], _, h => by simp at h
  | (n, k) :: r, x, h => by
    have ih := @relabel_lookup env r x
    show List.lookup x ((if (k == NameKind.free && env.scope.kind == .function && env.kindOf n == some .cell) = true then (n, NameKind.cell) else (n, k)) :: _) = _ ∨ List.lookup x ((if (k == NameKind.free && env.scope.kind == .function && env.kindOf n == some .cell) = true then (n, NameKind.cell) else (n, k)) :: _) = _
    cases hx : x == n with
    | true =>
      simp only [List.lookup_cons, hx] at h
      by_cases hc : (k == NameKind.free && env.scope.kind == .function && env.kindOf n == some .cell) = true
      · rw [if_pos hc]; left; simp [List.lookup_cons, hx]
      · rw [if_neg hc]; simp only [List.lookup_cons, hx]; exact h
    | false =>
      simp only [List.lookup_cons, hx] at h
      by_cases hc : (k == NameKind.free && env.scope.kind == .function && env.kindOf n == some .cell) = true
      · rw [if_pos hc]; simp only [List.lookup_cons, hx]; exact ih h
      · rw [if_neg hc]; simp only [List.lookup_cons, hx]; exact ih h
theorem blkOk_in {N : List Str} {sc scope : Scope} {own : List (Str × Nat)} {env : Env} (h : blkC N sc scope own = true) : BlkOk N (relabel sc env) scope own := by
  obtain ⟨h1, h2, h3, h4, h5⟩ := blkOk_by h
  exact ⟨h1, h2, h3, fun y hy e => relabel_lookup (h4 y hy e), h5⟩

/-! ### data told by a chunk -/
mutual
inductive Tel (c : Chunk) : V → PyData → Prop
  | non : Tel c .non .none
  | bl (b : Bool) : Tel c (.bl b) (.bool b)
  | int (i : Int) : Tel c (.int i) (.int i)
  | str (s : Str) : Tel c (.str s) (.str s)
  | lst {a : Addr} {xs : List V} {ds : List PyData} (h : (a, HO.lst xs) ∈ c) (k : TelAll c xs ds) : Tel c (.ref a) (.list ds)
  | tup {a : Addr} {xs : List V} {ds : List PyData} (h : (a, HO.tup xs) ∈ c) (k : TelAll c xs ds) : Tel c (.ref a) (.tuple ds)
inductive TelAll (c : Chunk) : List V → List PyData → Prop
  | nil : TelAll c [] []
  | cons {v : V} {vs : List V} {d : PyData} {ds : List PyData} (h : Tel c v d) (k : TelAll c vs ds) : TelAll c (v :: vs) (d :: ds)
end
mutual
theorem Tel.mono {c c' : Chunk} (s : ∀ x ∈ c, x ∈ c') {v : V} {d : PyData} : Tel c v d → Tel c' v d
  | .non => .non
  | .bl b => .bl b
  | .int i => .int i
  | .str i => .str i
  | .lst h k => .lst (s _ h) (TelAll.mono s k)
  | .tup h k => .tup (s _ h) (TelAll.mono s k)
theorem TelAll.mono {c c' : Chunk} (s : ∀ x ∈ c, x ∈ c') {v : List V} {d : List PyData} : TelAll c v d → TelAll c' v d
  | .nil => .nil
  | .cons h k => .cons (Tel.mono s h) (TelAll.mono s k)
end
theorem Dp.flst {K : PySem.W.Frag} {H : Hp} {a : Addr} {xs : List V} {ds : List PyData} (h : H a = some (.lst xs)) (k : DpAll K H xs ds) : Dp K H (.ref a) (.list ds) := .lst (.inl (.inl h)) k
mutual
theorem Tel.dp {K : PySem.W.Frag} {L : Lg} {c : Chunk} (hm : c ∈ L) {H : Hp} (l : Led H L) {v : V} {d : PyData} : Tel c v d → Dp K H v d
  | .non => .non
  | .bl b => .bl b
  | .int i => .int i
  | .str i => .str i
  | .lst h k => .lst (.inl (.inl (l.get _ hm _ h))) (TelAll.dp hm l k)
  | .tup h k => .tup (.inl (.inl (l.get _ hm _ h))) (TelAll.dp hm l k)
theorem TelAll.dp {K : PySem.W.Frag} {L : Lg} {c : Chunk} (hm : c ∈ L) {H : Hp} (l : Led H L) {v : List V} {d : List PyData} : TelAll c v d → DpAll K H v d
  | .nil => .nil
  | .cons h k => .cons (Tel.dp hm l h) (TelAll.dp hm l k)
end
theorem TelAll.len {c : Chunk} : ∀ {v : List V} {d : List PyData}, TelAll c v d → v.length = d.length
  | _, _, .nil => rfl
  | _, _, .cons _ k => by rw [List.length_cons, List.length_cons, k.len]
theorem TelAll.get {c : Chunk} : ∀ {v : List V} {d : List PyData} {i : Nat} {x : V}, TelAll c v d → v[i]? = some x → ∃ e, d[i]? = some e ∧ Tel c x e
  | _, _, i, _, .nil, h => by simp at h
  | _, _, 0, _, .cons t k, h => by
    simp only [List.getElem?_cons_zero, Option.some.injEq] at h ⊢
    exact ⟨_, rfl, h ▸ t⟩
  | _, _, i + 1, _, .cons t k, h => by
    simp only [List.getElem?_cons_succ] at h ⊢
    exact k.get h
theorem TelAll.get' {c : Chunk} : ∀ {v : List V} {d : List PyData} {i : Nat} {e : PyData}, TelAll c v d → d[i]? = some e → ∃ x, v[i]? = some x ∧ Tel c x e
  | _, _, i, _, .nil, h => by simp at h
  | _, _, 0, _, .cons t k, h => by
    simp only [List.getElem?_cons_zero, Option.some.injEq] at h ⊢
    exact ⟨_, rfl, h ▸ t⟩
  | _, _, i + 1, _, .cons t k, h => by
    simp only [List.getElem?_cons_succ] at h ⊢
    exact k.get' h
theorem TelAll.snoc {c : Chunk} {x : V} {e : PyData} (t : Tel c x e) : ∀ {v : List V} {d : List PyData}, TelAll c v d → TelAll c (v ++ [x]) (d ++ [e])
  | _, _, .nil => .cons t .nil
  | _, _, .cons h k => .cons h (k.snoc t)
theorem TelAll.ints {c : Chunk} : ∀ ns : List Int, TelAll c (ns.map V.int) (ns.map PyData.int)
  | [] => .nil
  | a :: ns => .cons (.int a) (TelAll.ints ns)
theorem Tel.list_inv {c : Chunk} {v : V} {ds : List PyData} (h : Tel c v (.list ds)) : ∃ a xs, v = .ref a ∧ (a, HO.lst xs) ∈ c ∧ TelAll c xs ds := by
  cases h with | lst h k => exact ⟨_, _, rfl, h, k⟩
theorem Tel.tup_inv {c : Chunk} {v : V} {ds : List PyData} (h : Tel c v (.tuple ds)) : ∃ a xs, v = .ref a ∧ (a, HO.tup xs) ∈ c ∧ TelAll c xs ds := by
  cases h with | tup h k => exact ⟨_, _, rfl, h, k⟩
theorem Tel.int_inv {c : Chunk} {v : V} {i : Int} (h : Tel c v (.int i)) : v = .int i := by
  cases h; rfl
theorem TelAll.cons_inv {c : Chunk} {vs : List V} {d : PyData} {ds : List PyData} (h : TelAll c vs (d :: ds)) : ∃ v ws, vs = v :: ws ∧ Tel c v d ∧ TelAll c ws ds := by
  cases h with | cons h k => exact ⟨_, _, rfl, h, k⟩
theorem TelAll.nil_inv {c : Chunk} {vs : List V} (h : TelAll c vs []) : vs = [] := by
  cases h; rfl
theorem TelAll.ints_inv {c : Chunk} : ∀ {ns : List Int} {vs : List V}, TelAll c vs (ns.map PyData.int) → vs = ns.map V.int
  | [], _, h => h.nil_inv
  | a :: ns, vs, h => by
    obtain ⟨v, ws, rfl, h1, h2⟩ := h.cons_inv
    rw [h1.int_inv, h2.ints_inv]
    rfl
theorem Tel.dI_inv {c : Chunk} {v : V} {ns : List Int} (h : Tel c v (dI ns)) : ∃ a, v = .ref a ∧ (a, HO.lst (ns.map V.int)) ∈ c := by
  obtain ⟨a, xs, rfl, h1, h2⟩ := h.list_inv
  rw [h2.ints_inv] at h1
  exact ⟨a, rfl, h1⟩
theorem Tel.dT_inv {c : Chunk} {v : V} {ns : List Int} (h : Tel c v (dT ns)) : ∃ a, v = .ref a ∧ (a, HO.tup (ns.map V.int)) ∈ c := by
  obtain ⟨a, xs, rfl, h1, h2⟩ := h.tup_inv
  rw [h2.ints_inv] at h1
  exact ⟨a, rfl, h1⟩
theorem Tel.ints {c : Chunk} {a : Addr} {ns : List Int} (h : (a, HO.lst (ns.map V.int)) ∈ c) : Tel c (.ref a) (dI ns) := .lst h (TelAll.ints ns)
theorem Tel.tints {c : Chunk} {a : Addr} {ns : List Int} (h : (a, HO.tup (ns.map V.int)) ∈ c) : Tel c (.ref a) (dT ns) := .tup h (TelAll.ints ns)

/-! ### data by the ledger, piece by piece -/
section
variable {K : PySem.W.Frag} {L : Lg} {p q : Addr} {xs : List V} {ds : List PyData} {Q : LVK}
def DpLA (K : PySem.W.Frag) (L : Lg) (xs : List V) (ds : List PyData) : Prop := ∀ H, Led H L → DpAll K H xs ds
theorem DpL.tel {c : Chunk} {v : V} {d : PyData} (h : Tel c v d) (hm : c ∈ L) : DpL K L v d := fun _ l => h.dp hm l
theorem DpL.int {i : Int} : DpL K L (.int i) (.int i) := fun _ _ => .int i
theorem DpL.bl {b : Bool} : DpL K L (.bl b) (.bool b) := fun _ _ => .bl b
theorem DpL.non : DpL K L .non .none := fun _ _ => .non
theorem DpL.str {s : Str} : DpL K L (.str s) (.str s) := fun _ _ => .str s
theorem DpL.lst (h : IsL K L p xs) (k : DpLA K L xs ds) : DpL K L (.ref p) (.list ds) := fun H l => .lst (h H l) (k H l)
theorem DpL.tup (h : IsT K L p xs) (k : DpLA K L xs ds) : DpL K L (.ref p) (.tuple ds) := fun H l => .tup (h H l) (k H l)
theorem DpL.iv {ns : List Int} (h : IsL K L p xs) (k : IntsV xs ns) : DpL K L (.ref p) (dI ns) := DpL.ints (k.eq ▸ h)
theorem DpL.tv {ns : List Int} (h : IsT K L p xs) (k : IntsV xs ns) : DpL K L (.ref p) (dT ns) := DpL.tints (k.eq ▸ h)
theorem DpLA.nil : DpLA K L [] [] := fun _ _ => .nil
theorem DpLA.cons {v : V} {vs : List V} {d : PyData} (h : DpL K L v d) (k : DpLA K L vs ds) : DpLA K L (v :: vs) (d :: ds) := fun H l => .cons (h H l) (k H l)
theorem DpLA.ints {ns : List Int} : DpLA K L (ns.map V.int) (ns.map PyData.int) := fun _ _ => dpAll_ints ns
theorem s_eq_dp {x y : V} {d e : PyData} {n m : Nat} {C : Prop} (h1 : DpL K L x d) (h2 : DpL K L y e) (h3 : nbD n d = true) (h4 : nbD m e = true) (h5 : d = e ↔ C) (k : Q (.bl (@decide C (Classical.propDecidable C))) L) (hn : n ≤ 64 := by decide) (hm : m ≤ 64 := by decide) : gEq K x y L Q :=
  s_eq_d h1 h2 (shaped_nb h3 hn) (shaped_nb h4 hm) (by rw [@dec_of_iff _ C (Classical.propDecidable C) ((eqv_nb n m d e h3 h4).trans h5)]; exact k)
theorem s_ne_dp {x y : V} {d e : PyData} {n m : Nat} {C : Prop} (h1 : DpL K L x d) (h2 : DpL K L y e) (h3 : nbD n d = true) (h4 : nbD m e = true) (h5 : d = e ↔ C) (k : Q (.bl (!@decide C (Classical.propDecidable C))) L) (hn : n ≤ 64 := by decide) (hm : m ≤ 64 := by decide) : gNe K x y L Q :=
  s_ne_d h1 h2 (shaped_nb h3 hn) (shaped_nb h4 hm) (by rw [@dec_of_iff _ C (Classical.propDecidable C) ((eqv_nb n m d e h3 h4).trans h5)]; exact k)
theorem dln_iff : PyData.list [] = PyData.list [] ↔ True := by simp
theorem dlc_iff {x y : PyData} {xs ys : List PyData} {A B : Prop} (h1 : x = y ↔ A) (h2 : PyData.list xs = PyData.list ys ↔ B) : PyData.list (x :: xs) = PyData.list (y :: ys) ↔ A ∧ B := by
  rw [← h1, ← h2]
  simp
theorem dtc_iff {x y : PyData} {xs ys : List PyData} {A B : Prop} (h1 : x = y ↔ A) (h2 : PyData.list xs = PyData.list ys ↔ B) : PyData.tuple (x :: xs) = PyData.tuple (y :: ys) ↔ A ∧ B := by
  rw [← h1, ← h2]
  simp
theorem di_iff {x y : Int} : PyData.int x = PyData.int y ↔ x = y := by simp
end
theorem nbm : ∀ {n : Nat} {d : PyData}, nbD n d = true → nbD (n + 1) d = true := by
  intro n
  induction n with
  | zero => intro d h; cases d <;> simp [nbD] at h <;> simp [nbD, h]
  | succ n ih =>
    have all : ∀ xs : List PyData, xs.all (nbD n) = true → xs.all (nbD (n + 1)) = true := fun xs h => by
      rw [List.all_eq_true] at h ⊢
      exact fun x hx => ih (h x hx)
    intro d h
    cases d with
    | list xs => exact all xs h
    | tuple xs => exact all xs h
    | none => rfl
    | int i => rfl
    | str i => exact h
    | _ => simp [nbD] at h
theorem nb_list {n : Nat} {ds : List PyData} (h : ∀ d ∈ ds, nbD n d = true) : nbD (n + 1) (.list ds) = true := List.all_eq_true.mpr h
theorem nb_tup {n : Nat} {ds : List PyData} (h : ∀ d ∈ ds, nbD n d = true) : nbD (n + 1) (.tuple ds) = true := List.all_eq_true.mpr h
theorem nba_nil {n : Nat} : ∀ d ∈ ([] : List PyData), nbD n d = true := fun _ h => nomatch h
theorem nba_cons {n : Nat} {d : PyData} {ds : List PyData} (h : nbD n d = true) (k : ∀ d ∈ ds, nbD n d = true) : ∀ e ∈ d :: ds, nbD n e = true := fun e he => by
  rcases List.mem_cons.mp he with rfl | he
  · exact h
  · exact k e he
theorem nb_i {n : Nat} {i : Int} : nbD n (.int i) = true := by cases n <;> rfl
theorem nb_n {n : Nat} : nbD n .none = true := by cases n <;> rfl
theorem nb1 {n : Nat} {ns : List Int} : nbD (n + 1) (dI ns) = true := by
  induction n with
  | zero => exact nb_dI ns
  | succ n ih => exact nbm ih
theorem nb1t {n : Nat} {ns : List Int} : nbD (n + 1) (dT ns) = true := by
  induction n with
  | zero => exact nb_dT ns
  | succ n ih => exact nbm ih
theorem nb2 {n : Nat} {ns : List (List Int)} : nbD (n + 2) (dR ns) = true := by
  induction n with
  | zero => exact nb_dR ns
  | succ n ih => exact nbm ih
theorem nb2t {n : Nat} {ns : List (List Int)} : nbD (n + 2) (dTs ns) = true := by
  induction n with
  | zero => exact nb_dTs ns
  | succ n ih => exact nbm ih
theorem dI_iff {a b : List Int} : dI a = dI b ↔ a = b := ⟨dI_inj, fun h => h ▸ rfl⟩
theorem dT_iff {a b : List Int} : dT a = dT b ↔ a = b := ⟨dT_inj, fun h => h ▸ rfl⟩
theorem dR_iff {a b : List (List Int)} : dR a = dR b ↔ a = b := ⟨dR_inj, fun h => h ▸ rfl⟩
theorem dTs_iff {a b : List (List Int)} : dTs a = dTs b ↔ a = b := ⟨dTs_inj, fun h => h ▸ rfl⟩

/-! lists of truths -/
def dB (bs : List Bool) : PyData := .list (bs.map .bool)
theorem eqvAll_B : ∀ as bs : List Bool, PyData.eqvAll (as.map .bool) (bs.map .bool) = decide (as = bs)
  | [], [] => by simp [PyData.eqvAll]
  | [], _ :: _ => by simp [PyData.eqvAll]
  | _ :: _, [] => by simp [PyData.eqvAll]
  | a :: as, b :: bs => by
    have := eqvAll_B as bs
    simp only [List.map_cons, PyData.eqvAll, this]
    cases a <;> cases b <;> simp [PyData.eqv]
theorem shaped_B (bs : List Bool) : SeqAt.shaped (dB bs) = true := by
  have h1 : PyData.canLayAll0 (bs.map .bool) = true := by
    induction bs with
    | nil => simp [PyData.canLayAll0]
    | cons b bs ih => simp [PyData.canLayAll0, PyData.canLay0, ih]
  have h2 : PyData.depthAll (bs.map .bool) ≤ 1 := by
    clear h1
    induction bs with
    | nil => simp [PyData.depthAll]
    | cons b bs ih => simp only [List.map_cons, PyData.depthAll, PyData.depth]; omega
  unfold SeqAt.shaped dB
  rw [show (PyData.list (bs.map .bool)).canLay0 = true by simp [PyData.canLay0, h1], decide_eq_true (by simp only [PyData.depth]; omega)]
  rfl
inductive BoolsV : List V → List Bool → Prop
  | nil : BoolsV [] []
  | cons {a : Bool} {xs : List V} {bs : List Bool} (h : BoolsV xs bs) : BoolsV (.bl a :: xs) (a :: bs)
  | map {bs : List Bool} : BoolsV (bs.map V.bl) bs
theorem BoolsV.dp {K : PySem.W.Frag} {H : Hp} {xs : List V} {bs : List Bool} (h : BoolsV xs bs) : DpAll K H xs (bs.map .bool) := by
  induction h with
  | nil => exact .nil
  | cons _ ih => exact .cons (.bl _) ih
  | @map bs =>
    induction bs with
    | nil => exact .nil
    | cons b bs ih => exact .cons (.bl _) ih
section
variable {K : PySem.W.Frag} {L : Lg} {p q : Addr} {xs ys : List V} {as bs : List Bool} {Q : LVK}
theorem s_eq_bs (h1 : IsL K L p xs) (h2 : IsL K L q ys) (e1 : BoolsV xs as) (e2 : BoolsV ys bs) (k : Q (.bl (decide (as = bs))) L) : gEq K (.ref p) (.ref q) L Q :=
  s_eq_d (d := dB as) (e := dB bs) (fun H l => .lst (h1 H l) e1.dp) (fun H l => .lst (h2 H l) e2.dp) (shaped_B _) (shaped_B _) (by
    rw [show PyData.eqv (dB as) (dB bs) = decide (as = bs) by simp only [dB, PyData.eqv, eqvAll_B]]; exact k)
theorem s_ne_bs (h1 : IsL K L p xs) (h2 : IsL K L q ys) (e1 : BoolsV xs as) (e2 : BoolsV ys bs) (k : Q (.bl (!decide (as = bs))) L) : gNe K (.ref p) (.ref q) L Q :=
  s_ne_d (d := dB as) (e := dB bs) (fun H l => .lst (h1 H l) e1.dp) (fun H l => .lst (h2 H l) e2.dp) (shaped_B _) (shaped_B _) (by
    rw [show PyData.eqv (dB as) (dB bs) = decide (as = bs) by simp only [dB, PyData.eqv, eqvAll_B]]; exact k)
end
/-! ### comprehensions and loops of a shape -/
section
variable {K : PySem.W.Frag} {σ : St} {L L4 : Lg} {Q : LVK} {gg : LTG} {tt : LTT} {te : LTE} {vw : List Nat} {Dl p : Addr} {lo : Int} {n : Nat} {ns : List Int} {xs : List V} {as : List Addr} {acc : List V}
def AccI (acc : List V) (v : V) (L : Lg) : List V → Lg → Prop := fun acc' L' => acc' = acc ++ [v] ∧ L' = L
theorem s_lcyI {x v : V} (hz : acc.length < 1000000) (l : Lic L4 ([(Dl, .lst acc)] :: L)) (e : x = v) : LcY Dl acc (AccI acc v L) x L4 := s_lcy hz l ⟨by rw [e], rfl⟩
theorem map_snoc {g : Nat → Int} {i : Nat} : (((List.range i).map g).map V.int) ++ [V.int (g i)] = ((List.range (i + 1)).map g).map V.int := by
  rw [List.range_succ, List.map_append, List.map_append]; rfl
/-- [g(i) for i in range]: ints -/
theorem c_ints (g : Nat → Int) {σw : St} (hw : wipe σ vw = σw) (hz : n ≤ 1000000)
    (hs : ∀ (i : Nat) (acc : List V), i < n → acc.length < 1000000 → gg (.int (lo + i)) σw ([(Dl, .lst acc)] :: L) (LcT tt te Dl acc (AccI acc (.int (g i)) L) σw vw))
    (hd : Wk (Q (.ref Dl)) ([(Dl, .lst (((List.range n).map g).map V.int))] :: L)) : LcR (wkR lo n) gg tt te vw σ Dl L Q := by
  refine c_range (fun i acc L' => acc = ((List.range i).map g).map V.int ∧ L' = L) hw (Wk.go ⟨rfl, rfl⟩) ?_ ?_
  · rintro i acc L' hi ⟨rfl, rfl⟩
    have := hs i (((List.range i).map g).map V.int) hi (by simp; omega)
    have e : AccI (((List.range i).map g).map V.int) (.int (g i)) L' = fun acc' L'' => acc' = ((List.range (i + 1)).map g).map V.int ∧ L'' = L' := by
      funext a b
      unfold AccI
      rw [map_snoc]
    rw [e] at this
    exact this
  · rintro acc L' ⟨rfl, rfl⟩
    exact hd
theorem c_ints0 (g : Nat → Int) {σw : St} (hw : wipe σ vw = σw) (hz : n ≤ 1000000)
    (hs : ∀ (i : Nat) (acc : List V), i < n → acc.length < 1000000 → gg (.int (i : Int)) σw ([(Dl, .lst acc)] :: L) (LcT tt te Dl acc (AccI acc (.int (g i)) L) σw vw))
    (hd : Wk (Q (.ref Dl)) ([(Dl, .lst (((List.range n).map g).map V.int))] :: L)) : LcR (wkR 0 n) gg tt te vw σ Dl L Q :=
  c_ints g hw hz (fun i acc h1 h2 => by rw [Int.zero_add]; exact hs i acc h1 h2) hd
/-- [g(x) for x in ints] -/
theorem c_intsL (g : Int → Int) {σw : St} (hw : wipe σ vw = σw) (hx : IsL K L p xs) (hv : IntsV xs ns) (hz : ns.length ≤ 1000000)
    (hs : ∀ (x : Int) (acc : List V), x ∈ ns → acc.length < 1000000 → gg (.int x) σw ([(Dl, .lst acc)] :: L) (LcT tt te Dl acc (AccI acc (.int (g x)) L) σw vw))
    (hd : Wk (Q (.ref Dl)) ([(Dl, .lst ((ns.map g).map V.int))] :: L)) : LcR (wkL K p xs) gg tt te vw σ Dl L Q := by
  have hv := hv.eq
  subst hv
  refine c_list (fun i acc L' => acc = ((ns.take i).map g).map V.int ∧ i ≤ ns.length ∧ L' = L) hw (Wk.go ⟨by simp, Nat.zero_le _, rfl⟩) (fun i acc L' h => ?_) ?_ ?_
  · rw [h.2.2]; exact IsL.tl hx
  · rintro i acc x L' hi ⟨rfl, hl, rfl⟩
    rw [List.getElem?_map] at hi
    obtain ⟨y, hy, rfl⟩ := Option.map_eq_some_iff.mp hi
    have hlt : i < ns.length := (List.getElem?_eq_some_iff.mp hy).1
    have := hs y (((ns.take i).map g).map V.int) (List.mem_of_getElem? hy) (by simp; omega)
    have e : AccI (((ns.take i).map g).map V.int) (.int (g y)) L' = fun acc' L'' => acc' = ((ns.take (i + 1)).map g).map V.int ∧ i + 1 ≤ ns.length ∧ L'' = L' := by
      funext a b
      unfold AccI
      rw [List.take_succ, hy]
      have : i + 1 ≤ ns.length := hlt
      simp [this]
    rw [e] at this
    exact this
  · rintro acc L' ⟨rfl, _, rfl⟩
    rw [List.length_map, List.take_length]
    exact hd
/-- a filter that drops all -/
theorem c_drop {σw : St} (hw : wipe σ vw = σw) (hx : IsL K L p xs)
    (hs : ∀ (x : V), x ∈ xs → gg x σw ([(Dl, .lst [])] :: L) (LcT tt te Dl [] (fun acc' L' => acc' = [] ∧ L' = L) σw vw))
    (hd : Wk (Q (.ref Dl)) ([(Dl, .lst [])] :: L)) : LcR (wkL K p xs) gg tt te vw σ Dl L Q := by
  refine c_list (fun i acc L' => acc = [] ∧ L' = L) hw (Wk.go ⟨rfl, rfl⟩) (fun i acc L' h => ?_) ?_ ?_
  · rw [h.2]; exact IsL.tl hx
  · rintro i acc x L' hi ⟨rfl, rfl⟩
    exact hs x (List.mem_of_getElem? hi)
  · rintro acc L' ⟨rfl, rfl⟩
    exact hd
theorem s_lcnI (l : Lic L4 ([(Dl, .lst acc)] :: L)) : LcN Dl acc (fun acc' L' => acc' = acc ∧ L' = L) L4 := s_lcn l ⟨rfl, rfl⟩
/-- [a fresh row of ints for i in range]: a volume -/
def RowsP (g : Nat → List Int) (i : Nat) (L : Lg) : List V → Lg → Prop := fun acc L' => ∃ as : List Addr, acc = as.map V.ref ∧ as.length = i ∧ L' = cellsL as ((List.range i).map g) :: L
theorem s_lcyR {i : Nat} {a : Addr} {g : Nat → List Int} {r : List Int} {ys : List V} (h : At L4 a (.lst ys)) (v : IntsV ys r) (e : r = g i) (hl : as.length = i) (hz : i < 1000000)
    (l : LicS L4 ([(a, .lst ys)] :: [(Dl, .lst (as.map V.ref))] :: cellsL as ((List.range i).map g) :: L)) : LcY Dl (as.map V.ref) (RowsP g (i + 1) L) (.ref a) L4 := by
  have e' := v.eq
  subst e'
  subst e
  refine s_lcy (by simp; omega) (Lic.trans l.lic (lic_turn (by simp [hl]))) ⟨as ++ [a], by simp, by simp [hl], ?_⟩
  rw [List.range_succ, List.map_append]
  rfl
theorem c_rows0 (g : Nat → List Int) {σw : St} (hw : wipe σ vw = σw)
    (hs : ∀ (i : Nat) (as : List Addr), i < n → as.length = i → gg (.int (i : Int)) σw ([(Dl, .lst (as.map V.ref))] :: cellsL as ((List.range i).map g) :: L) (LcT tt te Dl (as.map V.ref) (RowsP g (i + 1) L) σw vw))
    (hd : ∀ as : List Addr, as.length = n → Q (.ref Dl) (volC Dl as ((List.range n).map g) :: L)) : LcR (wkR 0 n) gg tt te vw σ Dl L Q := by
  refine c_range0 (fun i acc L' => RowsP g i L acc L') hw (Wk.by_ lic_cells_nil ⟨[], rfl, rfl, rfl⟩) ?_ ?_
  · rintro i acc L' hi ⟨as, rfl, ha, rfl⟩
    exact hs i as hi ha
  · rintro acc L' ⟨as, rfl, ha, rfl⟩
    exact Wk.by_ lic_vol (hd as ha)
/-! loops over ints and rows -/
variable {tb : LTS} {n0 : St → Lg → Prop} {r0 : LVK} {b0 c0 : St → Lg → Prop}
theorem f_ints (Pv : Nat → St → Lg → Prop) (hv : IntsV xs ns) (h0 : Wk (Pv 0 σ) L) (hG : ∀ i σ L, Pv i σ L → IsL K L p xs) (hs : ∀ (i : Nat) (x : Int) σ L, ns[i]? = some x → Pv i σ L → gg (.int x) σ L fun σ2 L2 => tb ⟨Pv (i + 1), r0, n0, Pv (i + 1)⟩ σ2 L2) (hd : ∀ σ L, Pv ns.length σ L → n0 σ L) : ForR (wkL K p xs) gg tb ⟨n0, r0, b0, c0⟩ σ L := by
  have e := hv.eq
  subst e
  refine f_list Pv h0 hG (fun i x σ L hx hp => ?_) (fun σ L hp => hd σ L (by rw [List.length_map] at hp; exact hp))
  rw [List.getElem?_map] at hx
  obtain ⟨y, hy, rfl⟩ := Option.map_eq_some_iff.mp hx
  exact hs i y σ L hy hp
theorem adr_get {i : Nat} {x : V} (h : (as.map V.ref)[i]? = some x) : x = .ref (adrAt as (i : Int)) ∧ i < as.length := by
  rw [List.getElem?_map] at h
  obtain ⟨a, ha, rfl⟩ := Option.map_eq_some_iff.mp h
  have hlt := (List.getElem?_eq_some_iff.mp ha).1
  have := get_adr (as := as) (j := (i : Int)) (by omega) (by omega)
  simp only [Int.toNat_natCast] at this
  rw [ha] at this
  exact ⟨congrArg V.ref (Option.some.inj this), hlt⟩
theorem f_refs (Pv : Nat → St → Lg → Prop) (h0 : Wk (Pv 0 σ) L) (hG : ∀ i σ L, Pv i σ L → IsL K L p (as.map V.ref)) (hs : ∀ (i : Nat) σ L, i < as.length → Pv i σ L → gg (.ref (adrAt as (i : Int))) σ L fun σ2 L2 => tb ⟨Pv (i + 1), r0, n0, Pv (i + 1)⟩ σ2 L2) (hd : ∀ σ L, Pv as.length σ L → n0 σ L) : ForR (wkL K p (as.map V.ref)) gg tb ⟨n0, r0, b0, c0⟩ σ L := by
  refine f_list Pv h0 hG (fun i x σ L hx hp => ?_) (fun σ L hp => hd σ L (by rw [List.length_map] at hp; exact hp))
  obtain ⟨rfl, hlt⟩ := adr_get hx
  exact hs i σ L hlt hp
theorem c_refs (Pv : Nat → List V → Lg → Prop) {σw : St} (hw : wipe σ vw = σw) (h0 : Wk (Pv 0 []) L) (hG : ∀ i acc L, Pv i acc L → IsL K ([(Dl, .lst acc)] :: L) p (as.map V.ref)) (hs : ∀ (i : Nat) acc L, i < as.length → Pv i acc L → gg (.ref (adrAt as (i : Int))) σw ([(Dl, .lst acc)] :: L) (LcT tt te Dl acc (Pv (i + 1)) σw vw)) (hd : ∀ acc L, Pv as.length acc L → Wk (Q (.ref Dl)) ([(Dl, .lst acc)] :: L)) : LcR (wkL K p (as.map V.ref)) gg tt te vw σ Dl L Q := by
  refine c_list Pv hw h0 hG (fun i acc x L hx hp => ?_) (fun acc L hp => hd acc L (by rw [List.length_map] at hp; exact hp))
  obtain ⟨rfl, hlt⟩ := adr_get hx
  exact hs i acc L hlt hp
/-- a row put in the place of another one -/
theorem s_set_row {a : Addr} {rows : List (List Int)} {r : List Int} {j : Int} {L0 : Lg} {P : Lg → Prop} (hp : LicS L4 (volC p as rows :: [(a, .lst (r.map V.int))] :: L0)) (hw : Wr p (.lst (as.map V.ref)) (.lst ((as.map V.ref).set j.toNat (.ref a))) L4 L) (hl : as.length = rows.length) (h0 : 0 ≤ j) (h1 : j < as.length)
    (k : Wk P L) : gSet (.ref p) (.int j) (.ref a) L4 (Wk P) := s_set_l hw (by rw [List.length_map]; exact ixN_pos h0 h1) k
end
theorem cells_set_perm : ∀ {as : List Addr} {rows : List (List Int)} {i : Nat} {a : Addr} {r : List Int}, as.length = rows.length → i < as.length → ∃ x, ((a, HO.lst (r.map V.int)) :: cellsL as rows).Perm (cellsL (as.set i a) (rows.set i r) ++ [x])
  | [], _, _, _, _, _, h => by simp at h
  | _ :: _, [], _, _, _, h, _ => by simp at h
  | b :: as, s :: rows, 0, a, r, hl, _ => ⟨(b, .lst (s.map V.int)), by
    show ((a, HO.lst (r.map V.int)) :: (b, HO.lst (s.map V.int)) :: cellsL as rows).Perm ((a, HO.lst (r.map V.int)) :: (cellsL as rows ++ [(b, HO.lst (s.map V.int))]))
    exact List.Perm.cons _ (List.perm_append_singleton _ _).symm⟩
  | b :: as, s :: rows, i + 1, a, r, hl, h => by
    obtain ⟨x, hx⟩ := cells_set_perm (as := as) (rows := rows) (i := i) (a := a) (r := r) (by simpa using hl) (by simpa using h)
    refine ⟨x, ?_⟩
    show ((a, HO.lst (r.map V.int)) :: (b, HO.lst (s.map V.int)) :: cellsL as rows).Perm ((b, HO.lst (s.map V.int)) :: (cellsL (as.set i a) (rows.set i r) ++ [x]))
    exact (List.Perm.swap _ _ _).trans (List.Perm.cons _ hx)
theorem LicS.rowset {as : List Addr} {rows : List (List Int)} {i : Nat} {a p : Addr} {r : List Int} {L T : Lg} (hl : as.length = rows.length) (hi : i < as.length) (h : LicS L ([(p, .lst ((as.map V.ref).set i (.ref a)))] :: [(a, .lst (r.map V.int))] :: cellsL as rows :: T)) : LicS L (volC p (as.set i a) (rows.set i r) :: T) := by
  refine h.trans ?_
  obtain ⟨x, hx⟩ := cells_set_perm (a := a) (r := r) hl hi
  refine ⟨[x], ?_⟩
  rw [List.flatten_cons, List.flatten_cons, List.flatten_cons, List.flatten_cons]
  unfold volC
  rw [List.map_set]
  simp only [List.cons_append, List.nil_append]
  refine List.Perm.cons _ ?_
  rw [← List.cons_append]
  refine (hx.append_right _).trans ?_
  rw [List.append_assoc, List.append_assoc]
  exact List.Perm.append_left _ List.perm_append_comm
/-- volume[j] = the fresh row at a: the volume at the front -/
theorem s_set_row2 {L : Lg} {p a : Addr} {as : List Addr} {rows : List (List Int)} {ys : List V} {r : List Int} {j : Int} {P : Lg → Prop} (v : IntsV ys r) (hl : as.length = rows.length) (h0 : 0 ≤ j) (h1 : j < as.length)
    (k : Wk P (volC p (as.set j.toNat a) (rows.set j.toNat r) :: L)) : gSet (.ref p) (.int j) (.ref a) ([(a, .lst ys)] :: volC p as rows :: L) (Wk P) := by
  have e := v.eq
  subst e
  refine s_set_l (Wr.tl (Wr.hd (A := []))) (by rw [List.length_map]; exact ixN_pos h0 h1) ?_
  obtain ⟨L', l, q⟩ := k
  refine ⟨L', Lic.trans (LicS.lic (LicS.rowset hl (by omega) ?_)) l, q⟩
  exact ⟨[], by simp; exact List.Perm.swap _ _ _⟩
end VM

end

section
namespace VM
open PySem PySem.Spec L2
open PyProof.Rows hiding St

/-! ### pairs of a number and a row -/
def dP (w : Int × List Int) : PyData := .tuple [.int w.1, dI w.2]
def dW (ws : List (Int × List Int)) : PyData := .list (ws.map dP)
theorem dP_iff {a b : Int × List Int} : dP a = dP b ↔ a = b := by
  constructor
  · intro h
    simp only [dP, PyData.tuple.injEq, List.cons.injEq, PyData.int.injEq, and_true] at h
    exact Prod.ext h.1 (dI_inj h.2)
  · rintro rfl; rfl
theorem dW_inj : ∀ {ns ms : List (Int × List Int)}, dW ns = dW ms → ns = ms
  | [], [], _ => rfl
  | [], _ :: _, h => by simp [dW] at h
  | _ :: _, [], h => by simp [dW] at h
  | a :: ns, b :: ms, h => by
    simp only [dW, List.map_cons, PyData.list.injEq, List.cons.injEq] at h
    rw [dP_iff.mp h.1, dW_inj (congrArg PyData.list h.2)]
theorem dW_iff {a b : List (Int × List Int)} : dW a = dW b ↔ a = b := ⟨dW_inj, fun h => h ▸ rfl⟩
theorem nb3w {n : Nat} {ws : List (Int × List Int)} : nbD (n + 3) (dW ws) = true := nb_list fun d hd => by
  obtain ⟨w, _, rfl⟩ := List.mem_map.mp hd
  exact nb_tup (nba_cons nb_i (nba_cons nb1 nba_nil))
theorem dR_nil {a : List (List Int)} : dR a = dI [] ↔ a = [] := by
  cases a <;> simp [dR, dI]
theorem dW_nil {a : List (Int × List Int)} : dW a = dI [] ↔ a = [] := by
  cases a <;> simp [dW, dI]
theorem dW_nil' {a : List (Int × List Int)} : dI [] = dW a ↔ a = [] := by
  cases a <;> simp [dW, dI]
theorem dR_nil' {a : List (List Int)} : dI [] = dR a ↔ a = [] := by
  cases a <;> simp [dR, dI]
theorem Tel.dP_inv {c : Chunk} {v : V} {w : Int × List Int} (h : Tel c v (dP w)) : ∃ t a, v = .ref t ∧ (t, HO.tup [.int w.1, .ref a]) ∈ c ∧ (a, HO.lst (w.2.map V.int)) ∈ c := by
  obtain ⟨t, xs, rfl, h1, h2⟩ := h.tup_inv
  obtain ⟨x, r, rfl, h3, h4⟩ := h2.cons_inv
  obtain ⟨y, r, rfl, h5, h6⟩ := h4.cons_inv
  obtain rfl := h6.nil_inv
  obtain rfl := h3.int_inv
  obtain ⟨a, rfl, h7⟩ := h5.dI_inv
  exact ⟨t, a, rfl, h1, h7⟩
theorem Tel.dP {c : Chunk} {t a : Addr} {n : Int} {r : List Int} (h : (t, HO.tup [.int n, .ref a]) ∈ c) (k : (a, HO.lst (r.map V.int)) ∈ c) : Tel c (.ref t) (dP (n, r)) := .tup h (.cons (.int n) (.cons (.ints k) .nil))
theorem TelAll.pair {c : Chunk} {xs : List V} {ws : List (Int × List Int)} {i : Nat} {x : V} (h : TelAll c xs (ws.map VM.dP)) (hx : xs[i]? = some x) : ∃ w t a, ws[i]? = some w ∧ x = .ref t ∧ (t, HO.tup [.int w.1, .ref a]) ∈ c ∧ (a, HO.lst (w.2.map V.int)) ∈ c := by
  obtain ⟨e, he, t⟩ := h.get hx
  rw [List.getElem?_map] at he
  obtain ⟨w, hw, rfl⟩ := Option.map_eq_some_iff.mp he
  obtain ⟨t, a, e, h1, h2⟩ := t.dP_inv
  exact ⟨w, t, a, hw, e, h1, h2⟩
/-- pairs at D: tuples at ts, rows at as -/
def tupC (D : Addr) (ts : List Addr) (ws : List (Int × List Int)) (as : List Addr) : Chunk := (D, .lst (ts.map V.ref)) :: ts.zip (List.zipWith (fun w a => HO.tup [V.int w.1, V.ref a]) ws as)
section
variable {K : PySem.W.Frag} {L : Lg} {D t a : Addr} {ts as : List Addr} {ws : List (Int × List Int)} {rows : List (List Int)} {i : Nat} {w : Int × List Int} {r : List Int}
theorem tup_top (h : tupC D ts ws as ∈ L) : At L D (.lst (ts.map V.ref)) := At.mem h List.mem_cons_self
theorem zip_mem {α β : Type} : ∀ {xs : List α} {ys : List β} {i : Nat} {x : α} {y : β}, xs[i]? = some x → ys[i]? = some y → (x, y) ∈ xs.zip ys
  | [], _, _, _, _, h, _ => by simp at h
  | _ :: _, [], _, _, _, _, h => by simp at h
  | a :: xs, b :: ys, 0, x, y, h1, h2 => by
    simp only [List.getElem?_cons_zero, Option.some.injEq] at h1 h2
    subst h1; subst h2
    exact List.mem_cons_self
  | a :: xs, b :: ys, i + 1, x, y, h1, h2 => by
    simp only [List.getElem?_cons_succ] at h1 h2
    exact List.mem_cons_of_mem _ (zip_mem h1 h2)
theorem tup_one (h : tupC D ts ws as ∈ L) (h1 : ts[i]? = some t) (h2 : ws[i]? = some w) (h3 : as[i]? = some a) : At L t (.tup [.int w.1, .ref a]) :=
  At.mem h (List.mem_cons_of_mem _ (zip_mem h1 (by rw [List.getElem?_zipWith, h2, h3])))
theorem cells_at (h : cellsL as rows ∈ L) (h1 : as[i]? = some a) (h2 : rows[i]? = some r) : At L a (.lst (r.map V.int)) := At.mem h (cells_mem h1 h2)
theorem cell_at {j : Int} (h : cellsL as rows ∈ L) (hl : as.length = rows.length) (h0 : 0 ≤ j) (h1 : j < as.length) : At L (adrAt as j) (.lst ((rowAt rows j).map V.int)) := cells_at h (get_adr h0 h1) (get_row h0 (by omega))
theorem tup_at {j : Int} (h : tupC D ts ws as ∈ L) (hl : ts.length = ws.length) (hl2 : as.length = ws.length) (h0 : 0 ≤ j) (h1 : j < ts.length) : At L (adrAt ts j) (.tup [.int (ws.getD j.toNat (0, [])).1, .ref (adrAt as j)]) := by
  refine tup_one h (get_adr h0 h1) ?_ (get_adr h0 (by omega))
  have hn : j.toNat < ws.length := by omega
  simp [List.getD_eq_getElem?_getD, List.getElem?_eq_getElem hn]
theorem DpLA.mk {xs : List V} {ds : List PyData} (hl : xs.length = ds.length) (h : ∀ (i : Nat) x d, xs[i]? = some x → ds[i]? = some d → DpL K L x d) : DpLA K L xs ds := by
  induction xs generalizing ds with
  | nil => cases ds with
    | nil => exact .nil
    | cons _ _ => simp at hl
  | cons x xs ih => cases ds with
    | nil => simp at hl
    | cons d ds => exact .cons (h 0 x d rfl rfl) (ih (by simpa using hl) fun i x d h1 h2 => h (i + 1) x d h1 h2)
theorem DpL.pairs (h : tupC D ts ws as ∈ L) (k : cellsL as (ws.map Prod.snd) ∈ L) (hl : ts.length = ws.length) (hl2 : as.length = ws.length) : DpL K L (.ref D) (dW ws) := by
  refine DpL.lst (IsL.at_ (tup_top h)) (DpLA.mk (by simp [hl]) fun i x d hx hd => ?_)
  rw [List.getElem?_map] at hx hd
  obtain ⟨t, ht, rfl⟩ := Option.map_eq_some_iff.mp hx
  obtain ⟨w, hw, rfl⟩ := Option.map_eq_some_iff.mp hd
  have hi := (List.getElem?_eq_some_iff.mp hw).1
  have ha : as[i]? = some as[i] := List.getElem?_eq_getElem (by omega)
  have h1 := tup_one h ht hw ha
  have h2 := cells_at k ha (r := w.2) (by rw [List.getElem?_map, hw]; rfl)
  exact DpL.tup (IsT.at_ h1) (.cons .int (.cons (DpL.ints (IsL.at_ h2)) .nil))
theorem Tel.pairs {rows : List (List Int)} (hr : rows = ws.map Prod.snd) (hl : ts.length = ws.length) (hl2 : as.length = ws.length) : Tel (tupC D ts ws as ++ cellsL as rows) (.ref D) (dW ws) := by
  subst hr
  have mk : ∀ (c : Chunk) (xs : List V) (ds : List PyData), xs.length = ds.length → (∀ (i : Nat) x d, xs[i]? = some x → ds[i]? = some d → Tel c x d) → TelAll c xs ds := by
    intro c xs
    induction xs with
    | nil => intro ds hl _; cases ds with
      | nil => exact .nil
      | cons _ _ => simp at hl
    | cons x xs ih => intro ds hl h; cases ds with
      | nil => simp at hl
      | cons d ds => exact .cons (h 0 x d rfl rfl) (ih ds (by simpa using hl) fun i x d h1 h2 => h (i + 1) x d h1 h2)
  refine .lst (List.mem_append_left _ List.mem_cons_self) (mk _ _ _ (by simp [hl]) fun i x d hx hd => ?_)
  rw [List.getElem?_map] at hx hd
  obtain ⟨t, ht, rfl⟩ := Option.map_eq_some_iff.mp hx
  obtain ⟨w, hw, rfl⟩ := Option.map_eq_some_iff.mp hd
  have hi := (List.getElem?_eq_some_iff.mp hw).1
  have ha : as[i]? = some as[i] := List.getElem?_eq_getElem (by omega)
  refine Tel.dP (a := as[i]) (List.mem_append_left _ (List.mem_cons_of_mem _ (zip_mem ht (by rw [List.getElem?_zipWith, hw, ha])))) (List.mem_append_right _ (cells_mem ha (by rw [List.getElem?_map, hw]; rfl)))
/-! loops over pairs told by a chunk -/
variable {σ : St} {gg : LTG} {tb : LTS} {n0 : St → Lg → Prop} {r0 : LVK} {b0 c0 : St → Lg → Prop} {q : Addr} {xs : List V} {c : Chunk}
theorem f_pairs (Pv : Nat → St → Lg → Prop) (ht : TelAll c xs (ws.map VM.dP)) (h0 : Wk (Pv 0 σ) L) (hG : ∀ i σ L, Pv i σ L → IsL K L q xs)
    (hs : ∀ (i : Nat) n r t a σ L, ws[i]? = some (n, r) → (t, HO.tup [.int n, .ref a]) ∈ c → (a, HO.lst (r.map V.int)) ∈ c → Pv i σ L → gg (.ref t) σ L fun σ2 L2 => tb ⟨Pv (i + 1), r0, n0, Pv (i + 1)⟩ σ2 L2) (hd : ∀ σ L, Pv ws.length σ L → n0 σ L) : ForR (wkL K q xs) gg tb ⟨n0, r0, b0, c0⟩ σ L := by
  refine f_list Pv h0 hG (fun i x σ L hx hp => ?_) (fun σ L hp => hd σ L (by rw [ht.len, List.length_map] at hp; exact hp))
  obtain ⟨⟨n, r⟩, t, a, hw, rfl, h1, h2⟩ := ht.pair hx
  exact hs i n r t a σ L hw h1 h2 hp
theorem LicS.tup1 {ts : List Addr} {ws : List (Int × List Int)} {as : List Addr} {D t a : Addr} {w : Int × List Int} {T : Lg} (hl : ts.length = ws.length) (hl2 : as.length = ws.length) (h : LicS L ([(D, .lst ((ts ++ [t]).map V.ref))] :: [(t, .tup [.int w.1, .ref a])] :: (ts.zip (List.zipWith (fun w a => HO.tup [V.int w.1, V.ref a]) ws as)) :: T)) : LicS L (tupC D (ts ++ [t]) (ws ++ [w]) (as ++ [a]) :: T) := by
  refine h.trans ⟨[], ?_⟩
  unfold tupC
  rw [List.zipWith_append (by omega), List.zip_append (by simp; omega)]
  simp only [List.flatten_cons, List.cons_append, List.nil_append, List.append_nil, List.append_assoc, List.zip_cons_cons, List.zipWith_cons_cons, List.zipWith_nil_right, List.zip_nil_right]
  exact List.Perm.cons _ List.perm_middle.symm
/-- [(n, list(r)) for n, r in ws] -/
theorem s_copyW {i j k : Nat} {Q : LVK} {vs : List Nat} (hv : σ[i]? = some (some (.ref q))) (hm : c ∈ L) (ht : Tel c (.ref q) (dW ws)) (hz : ws.length ≤ 1000000) (hj : j < σ.length) (hk : k < σ.length) (hjk : j ≠ k) (hvs : vs = [j, k])
    (kk : ∀ D ts as, ts.length = ws.length → as.length = ws.length → Q (.ref D) (tupC D ts ws as :: cellsL as (ws.map Prod.snd) :: L)) :
    lLc (kSeq K (lVar i)) (hTup K 2 (hCons (hName j) (hCons (hName k) hNil))) lYes (lTup (lCons (lVar j) (lCons (lCB (gList K) (lCons (lVar k) lNil)) lNil))) vs σ L Q := by
  subst hvs
  obtain ⟨_, xs, e, hq, hall⟩ := ht.list_inv
  cases e
  obtain ⟨σw, hw⟩ : ∃ σw, wipe σ [j, k] = σw := ⟨_, rfl⟩
  have hj' : j < σw.length := by rw [← hw, wipe_length]; exact hj
  have hk' : k < σw.length := by rw [← hw, wipe_length]; exact hk
  have hwj : ∀ x y, wipe ((σw.set j x).set k y) [j, k] = σw := fun x y => by
    rw [← hw]
    simp only [wipe]
    apply List.ext_getElem?
    intro m
    simp only [List.getElem?_set, List.length_set]
    by_cases e1 : k = m <;> by_cases e2 : j = m <;> simp_all
  have setat : ∀ (σ : St) (j : Nat) (v : V), j < σ.length → SetAt v σ j (σ.set j (some v)) := by
    intro σ
    induction σ with
    | nil => intro j v h; simp at h
    | cons x σ ih =>
      intro j v h
      cases j with
      | zero => exact .hd
      | succ j => exact .tl (ih j v (by simpa using h))
  refine ⟨.ref q, hv, q, xs, rfl, .inl ⟨IsL.at_ (At.mem hm hq), fun D hD => ?_⟩⟩
  refine c_list (fun n acc L' => ∃ ts as : List Addr, acc = ts.map V.ref ∧ ts.length = n ∧ as.length = n ∧ n ≤ ws.length ∧ L' = (ts.zip (List.zipWith (fun w a => HO.tup [V.int w.1, V.ref a]) (ws.take n) as)) :: cellsL as ((ws.take n).map Prod.snd) :: L) hw ?_ ?_ ?_ ?_
  · exact Wk.by_ (LicS.lic (LicS.empty (LicS.empty LicS.refl))) ⟨[], [], rfl, rfl, rfl, Nat.zero_le _, by simp [cellsL]⟩
  · rintro n acc L' ⟨ts, as, rfl, _, _, hn, rfl⟩
    exact IsL.tl (IsL.tl (IsL.tl (IsL.at_ (At.mem hm hq))))
  · rintro n acc x L' hx ⟨ts, as, rfl, hts, has, hn, rfl⟩
    obtain ⟨⟨b, r⟩, t, a, hwn, rfl, m1, m2⟩ := hall.pair hx
    have hlt : n < ws.length := (List.getElem?_eq_some_iff.mp hwn).1
    refine s_htup (xs := [.int b, .ref a]) (IsT.at_ (At.tl (At.tl (At.tl (At.mem hm m1))))) rfl ?_
    refine s_hcons (s_name (setat _ _ _ hj') (s_hcons (s_name (setat _ _ _ (by rw [List.length_set]; exact hk')) (s_hnil ?_))))
    refine s_lct (hwj _ _) (s_yes ?_)
    rw [if_pos rfl]
    refine s_tup (s_cons (s_var (v := .int b) (by rw [List.getElem?_set_ne (Ne.symm hjk), List.getElem?_set_self hj']) (s_cons (s_cb (s_cons (s_var (v := .ref a) (by rw [List.getElem?_set_self (by rw [List.length_set]; exact hk')]) (s_nil ?_)))) )))
    refine s_list_l (xs := r.map V.int) (IsL.at_ (At.tl (At.tl (At.tl (At.mem hm m2))))) fun a2 => s_nil (s_new (show 2 ≤ sizeLine by decide) fun t2 => ?_)
    refine s_lcy (L5 := ((ts ++ [t2]).zip (List.zipWith (fun w a => HO.tup [V.int w.1, V.ref a]) (ws.take n ++ [(b, r)]) (as ++ [a2]))) :: cellsL (as ++ [a2]) ((ws.take n ++ [(b, r)]).map Prod.snd) :: L) (by simp; omega) ?_ ⟨ts ++ [t2], as ++ [a2], by simp, by simp [hts], by simp [has], hlt, ?_⟩
    · have htk : (ws.take n).length = n := by simp; omega
      rw [List.map_append, List.zipWith_append (by omega), List.zip_append (by simp; omega)]
      refine LicS.lic (LicS.pull (.tl (.tl .hd)) (LicS.trans (?_ : LicS _ ((ts.zip (List.zipWith (fun w a => HO.tup [V.int w.1, V.ref a]) (ws.take n) as)) :: [(t2, HO.tup [V.int b, V.ref a2])] :: cellsL (as ++ [a2]) (List.map Prod.snd (ws.take n) ++ [r]) :: L)) (LicS.of_flat (by simp))))
      refine LicS.pull (.tl (.tl .hd)) (LicS.pull .hd ?_)
      exact LicS.row (by simp; omega) LicS.refl
    · rw [List.take_succ, hwn]; rfl
  · rintro acc L' ⟨ts, as, rfl, hts, has, hn, rfl⟩
    have hxl : xs.length = ws.length := by rw [hall.len, List.length_map]
    rw [hxl] at hts has ⊢
    rw [List.take_length]
    refine Wk.by_ (LicS.lic ?_) (kk D ts as hts has)
    exact LicS.of_flat (by simp [tupC])
end
theorem Tel.wnil {x : Addr} : Tel [(x, HO.lst [])] (.ref x) (dW []) := .lst List.mem_cons_self .nil
/-! a chunk put in the place of one -/
inductive Rp (c c' : Chunk) : Lg → Lg → Prop
  | hd {L : Lg} : Rp c c' (c :: L) (c' :: L)
  | tl {d : Chunk} {L L' : Lg} (h : Rp c c' L L') : Rp c c' (d :: L) (d :: L')
theorem Rp.wr {c c' : Chunk} {L L' : Lg} {p : Addr} {o o' : HO} (h : Rp c c' L L') (w : ∀ L, Wr p o o' (c :: L) (c' :: L)) : Wr p o o' L L' := by
  induction h with
  | hd => exact w _
  | tl _ ih => exact Wr.tl ih
theorem s_set_volR {p : Addr} {as : List Addr} {rows : List (List Int)} {L L' : Lg} {j i v : Int} {Q : Lg → Prop} (h : Rp (volC p as rows) (volC p as (putAt rows j i.toNat v)) L L') (hl : as.length = rows.length) (h0 : 0 ≤ j) (h1 : j < as.length) (h2 : 0 ≤ i) (h3 : i < (rowAt rows j).length) (k : Q L') : gSet (.ref (adrAt as j)) (.int i) (.int v) L Q := s_set_i (h.wr fun _ => Wr.volset hl h0 h1) (ixN_pos h2 h3) k
theorem Wr.cellset {as : List Addr} {rows : List (List Int)} {L : Lg} {j : Int} {n : Nat} {v : Int} (hl : as.length = rows.length) (h0 : 0 ≤ j) (h1 : j < as.length) : Wr (adrAt as j) (.lst ((rowAt rows j).map V.int)) (.lst (((rowAt rows j).set n v).map V.int)) (cellsL as rows :: L) (cellsL as (putAt rows j n v) :: L) := by
  obtain ⟨A, B, e1, e2⟩ := cells_split (get_adr h0 h1) (get_row (rows := rows) h0 (by omega))
  unfold putAt
  rw [e1, e2]
  exact Wr.hd
theorem s_set_cellR {as : List Addr} {rows : List (List Int)} {L L' : Lg} {j i v : Int} {Q : Lg → Prop} (h : Rp (cellsL as rows) (cellsL as (putAt rows j i.toNat v)) L L') (hl : as.length = rows.length) (h0 : 0 ≤ j) (h1 : j < as.length) (h2 : 0 ≤ i) (h3 : i < (rowAt rows j).length) (k : Q L') : gSet (.ref (adrAt as j)) (.int i) (.int v) L Q := s_set_i (h.wr fun _ => Wr.cellset hl h0 h1) (ixN_pos h2 h3) k
/-! tests that are known -/
section
variable {c A B : Prop} {d : Decidable c}
theorem s_iteDT (h : c) (k : A) : if @decide c d = true then A else B := by rw [if_pos (decide_eq_true h)]; exact k
theorem s_iteDF (h : ¬ c) (k : B) : if @decide c d = true then A else B := by rw [if_neg (by rw [decide_eq_false h]; simp)]; exact k
theorem s_iteNT (h : c) (k : B) : if (!@decide c d) = true then A else B := by rw [if_neg (by rw [decide_eq_true h]; simp)]; exact k
theorem s_iteNF (h : ¬ c) (k : A) : if (!@decide c d) = true then A else B := by rw [if_pos (by rw [decide_eq_false h]; simp)]; exact k
end
/-! comprehensions, the walk's own -/
section
variable {K : PySem.W.Frag} {σ σw : St} {L : Lg} {Q : LVK} {gg : LTG} {tt : LTT} {te : LTE} {vw : List Nat} {p : Addr} {lo : Int} {n : Nat} {ns : List Int} {xs : List V}
theorem a_ints (g : Nat → Int) (hw : wipe σ vw = σw) (hz : n ≤ 1000000)
    (hs : ∀ (i : Nat) (acc : List V) (Dl : Addr), i < n → acc.length < 1000000 → gg (.int (i : Int)) σw ([(Dl, .lst acc)] :: L) (LcT tt te Dl acc (AccI acc (.int (g i)) L) σw vw))
    (hd : ∀ Dl, Wk (Q (.ref Dl)) ([(Dl, .lst (((List.range n).map g).map V.int))] :: L)) : ∀ Dl, Dl ∉ keys L → LcR (wkR 0 n) gg tt te vw σ Dl L Q := fun Dl _ => c_ints0 g hw hz (fun i acc h1 h2 => hs i acc Dl h1 h2) (hd Dl)
theorem a_intsN (g : Nat → Int) (hw : wipe σ vw = σw) (hz : n ≤ 1000000)
    (hs : ∀ (i : Nat) (acc : List V) (Dl : Addr), i < n → acc.length < 1000000 → gg (.int (lo + i)) σw ([(Dl, .lst acc)] :: L) (LcT tt te Dl acc (AccI acc (.int (g i)) L) σw vw))
    (hd : ∀ Dl, Wk (Q (.ref Dl)) ([(Dl, .lst (((List.range n).map g).map V.int))] :: L)) : ∀ Dl, Dl ∉ keys L → LcR (wkR lo n) gg tt te vw σ Dl L Q := fun Dl _ => c_ints g hw hz (fun i acc h1 h2 => hs i acc Dl h1 h2) (hd Dl)
theorem a_intsL (g : Int → Int) (hx : IsL K L p xs) (hv : IntsV xs ns) (hw : wipe σ vw = σw) (hz : ns.length ≤ 1000000)
    (hs : ∀ (x : Int) (acc : List V) (Dl : Addr), x ∈ ns → acc.length < 1000000 → gg (.int x) σw ([(Dl, .lst acc)] :: L) (LcT tt te Dl acc (AccI acc (.int (g x)) L) σw vw))
    (hd : ∀ Dl, Wk (Q (.ref Dl)) ([(Dl, .lst ((ns.map g).map V.int))] :: L)) : ∀ Dl, Dl ∉ keys L → LcR (wkL K p xs) gg tt te vw σ Dl L Q := fun Dl _ => c_intsL g hw hx hv hz (fun x acc h1 h2 => hs x acc Dl h1 h2) (hd Dl)
theorem a_rows (g : Nat → List Int) (hw : wipe σ vw = σw)
    (hs : ∀ (i : Nat) (as : List Addr) (Dl : Addr), i < n → as.length = i → gg (.int (i : Int)) σw ([(Dl, .lst (as.map V.ref))] :: cellsL as ((List.range i).map g) :: L) (LcT tt te Dl (as.map V.ref) (RowsP g (i + 1) L) σw vw))
    (hd : ∀ (Dl : Addr) (as : List Addr), as.length = ((List.range n).map g).length → as.length = n → Q (.ref Dl) (volC Dl as ((List.range n).map g) :: L)) : ∀ Dl, Dl ∉ keys L → LcR (wkR 0 n) gg tt te vw σ Dl L Q := fun Dl _ => c_rows0 g hw (fun i as h1 h2 => hs i as Dl h1 h2) fun as ha => hd Dl as (by simpa using ha) ha
theorem a_boolsL (g : Int → Bool) (hx : IsL K L p xs) (hv : IntsV xs ns) (hw : wipe σ vw = σw) (hz : ns.length ≤ 1000000)
    (hs : ∀ (x : Int) (acc : List V) (Dl : Addr), x ∈ ns → acc.length < 1000000 → gg (.int x) σw ([(Dl, .lst acc)] :: L) (LcT tt te Dl acc (AccI acc (.bl (g x)) L) σw vw))
    (hd : ∀ Dl, Wk (Q (.ref Dl)) ([(Dl, .lst ((ns.map g).map V.bl))] :: L)) : ∀ Dl, Dl ∉ keys L → LcR (wkL K p xs) gg tt te vw σ Dl L Q := fun Dl _ => by
  have hv := hv.eq
  subst hv
  refine c_list (fun i acc L' => acc = ((ns.take i).map g).map V.bl ∧ i ≤ ns.length ∧ L' = L) hw (Wk.go ⟨by simp, Nat.zero_le _, rfl⟩) (fun i acc L' h => ?_) ?_ ?_
  · rw [h.2.2]; exact IsL.tl hx
  · rintro i acc x L' hi ⟨rfl, hl, rfl⟩
    rw [List.getElem?_map] at hi
    obtain ⟨y, hy, rfl⟩ := Option.map_eq_some_iff.mp hi
    have hlt : i < ns.length := (List.getElem?_eq_some_iff.mp hy).1
    have := hs y (((ns.take i).map g).map V.bl) Dl (List.mem_of_getElem? hy) (by simp; omega)
    have e : AccI (((ns.take i).map g).map V.bl) (.bl (g y)) L' = fun acc' L'' => acc' = ((ns.take (i + 1)).map g).map V.bl ∧ i + 1 ≤ ns.length ∧ L'' = L' := by
      funext a b
      unfold AccI
      rw [List.take_succ, hy]
      have : i + 1 ≤ ns.length := hlt
      simp [this]
    rw [e] at this
    exact this
  · rintro acc L' ⟨rfl, _, rfl⟩
    rw [List.length_map, List.take_length]
    exact hd Dl
theorem a_bools (g : Nat → Bool) (hw : wipe σ vw = σw) (hz : n ≤ 1000000)
    (hs : ∀ (i : Nat) (acc : List V) (Dl : Addr), i < n → acc.length < 1000000 → gg (.int (i : Int)) σw ([(Dl, .lst acc)] :: L) (LcT tt te Dl acc (AccI acc (.bl (g i)) L) σw vw))
    (hd : ∀ Dl, Wk (Q (.ref Dl)) ([(Dl, .lst (((List.range n).map g).map V.bl))] :: L)) : ∀ Dl, Dl ∉ keys L → LcR (wkR 0 n) gg tt te vw σ Dl L Q := fun Dl _ => by
  refine c_range0 (fun i acc L' => acc = ((List.range i).map g).map V.bl ∧ L' = L) hw (Wk.go ⟨rfl, rfl⟩) ?_ ?_
  · rintro i acc L' hi ⟨rfl, rfl⟩
    have := hs i (((List.range i).map g).map V.bl) Dl hi (by simp; omega)
    have e : AccI (((List.range i).map g).map V.bl) (.bl (g i)) L' = fun acc' L'' => acc' = ((List.range (i + 1)).map g).map V.bl ∧ L'' = L' := by
      funext a b
      unfold AccI
      rw [List.range_succ, List.map_append, List.map_append]; rfl
    rw [e] at this
    exact this
  · rintro acc L' ⟨rfl, rfl⟩
    exact hd Dl
theorem s_all {bs : List Bool} (h : At L p (.lst (bs.map V.bl))) (k : Q (.bl (bs.all id)) L) : gAll K [.ref p] L Q := ⟨p, bs, rfl, IsL.at_ h, k⟩
theorem s_add_l2 {q : Addr} {ys : List V} (h1 : At L p (.lst xs)) (h2 : At L q (.lst ys)) (hz : xs.length + ys.length ≤ 1000000) (k : ∀ r, Q (.ref r) ([(r, .lst (xs ++ ys))] :: L)) : gAdd K (.ref p) (.ref q) L Q := s_add_l h1 h2 (Nat.le_trans hz (by decide)) k
theorem s_len_refs {as : List Addr} (h : IsL K L p (as.map V.ref)) (k : Q (.int as.length) L) : gLen K [.ref p] L Q := s_len_l h (by rw [List.length_map]; exact k)
theorem filt_nt {ns : List Int} : ns.filter (fun _ => !true) = [] := by simp
theorem s_ix_ivE {ns : List Int} {i x : Int} (h : IsL K L p xs) (e : IntsV xs ns) (h0 : 0 ≤ i) (h1 : i < ns.length) (he : ns.getD i.toNat 0 = x) (k : Q (.int x) L) : gIx K (.ref p) (.int i) L Q := s_ix_iv h e h0 h1 (by rw [he]; exact k)
theorem s_ix_tvE {ns : List Int} {i x : Int} (h : IsT K L p xs) (e : IntsV xs ns) (h0 : 0 ≤ i) (h1 : i < ns.length) (he : ns.getD i.toNat 0 = x) (k : Q (.int x) L) : gIx K (.ref p) (.int i) L Q := s_ix_tv h e h0 h1 (by rw [he]; exact k)
theorem filt_ff {ns : List Int} : ns.filter (fun _ => false) = [] := by simp
theorem cutG_len {α : Type} {xs : List α} {lo hi : Option Int} : (cutG xs lo hi).length ≤ xs.length := by
  unfold cutG
  simp only [List.length_take, List.length_drop]
  omega
/-- volume[j] = the fresh row at a -/
theorem s_set_rowR {L1 L2 : Lg} {a : Addr} {as : List Addr} {rows : List (List Int)} {ys : List V} {r : List Int} {j : Int} {P : Lg → Prop} (h1 : Pull [(a, .lst ys)] L L1) (h2 : Pull (volC p as rows) L1 L2) (v : IntsV ys r) (hl : as.length = rows.length) (h0 : 0 ≤ j) (h3 : j < as.length)
    (k : Wk P (volC p (as.set j.toNat a) (rows.set j.toNat r) :: L2)) : gSet (.ref p) (.int j) (.ref a) L (Wk P) := by
  have e := v.eq
  subst e
  -- the volume's place
  have wr : ∀ {L L1 : Lg}, Pull (volC p as rows) L L1 → ∃ L', Wr p (.lst (as.map V.ref)) (.lst ((as.map V.ref).set j.toNat (.ref a))) L L' ∧ Pull ((p, .lst ((as.map V.ref).set j.toNat (.ref a))) :: cellsL as rows) L' L1 := by
    intro L L1 h
    induction h with
    | hd => exact ⟨_, Wr.hd (A := []), .hd⟩
    | tl _ ih =>
      obtain ⟨L', w, q⟩ := ih
      exact ⟨_, .tl w, .tl q⟩
  -- the pulls the other way round
  have sw : ∀ {L L1 L2 : Lg} {c d : Chunk}, Pull c L L1 → Pull d L1 L2 → ∃ L3, Pull d L L3 ∧ Pull c L3 L2 := by
    intro L L1 L2 c d h
    induction h generalizing L2 with
    | hd => intro k; exact ⟨_, .tl k, .hd⟩
    | tl h ih =>
      intro k
      cases k with
      | hd => exact ⟨_, .hd, h⟩
      | tl k =>
        obtain ⟨L3, a, b⟩ := ih k
        exact ⟨_, .tl a, .tl b⟩
  obtain ⟨L3, g1, g2⟩ := sw h1 h2
  obtain ⟨L', w, q⟩ := wr g1
  refine s_set_l w (by rw [List.length_map]; exact ixN_pos h0 h3) ?_
  obtain ⟨L5, l, z⟩ := k
  refine ⟨L5, Lic.trans (LicS.lic (LicS.rowset hl (by omega) ?_)) l, z⟩
  exact LicS.trans (LicS.pull q (LicS.pull g2 LicS.refl)) ⟨[], by simp only [List.flatten_cons, List.cons_append, List.nil_append, List.append_nil]; exact List.Perm.cons _ List.perm_middle⟩
theorem IntsV.rep {k : Nat} {a : Int} : IntsV ((List.replicate k [V.int a]).flatten) (List.replicate k a) := by
  have e : (List.replicate k [V.int a]).flatten = (List.replicate k a).map V.int := by
    induction k with
    | zero => rfl
    | succ k ih => rw [List.replicate_succ, List.flatten_cons, ih, List.replicate_succ]; rfl
  rw [e]
  exact .map
/-- a filter of refs that drops all -/
def AccN (L : Lg) : List V → Lg → Prop := fun acc' L' => acc' = [] ∧ L' = L
theorem s_lcnN {Dl : Addr} {L3 : Lg} (l : Lic L3 ([(Dl, .lst [])] :: L)) : LcN Dl [] (AccN L) L3 := s_lcn l ⟨rfl, rfl⟩
theorem a_dropR {as : List Addr} (hx : IsL K L p (as.map V.ref)) (hw : wipe σ vw = σw)
    (hs : ∀ (i : Nat) (Dl : Addr), i < as.length → gg (.ref (adrAt as (i : Int))) σw ([(Dl, .lst [])] :: L) (LcT tt te Dl [] (AccN L) σw vw))
    (hd : ∀ Dl, Wk (Q (.ref Dl)) ([(Dl, .lst [])] :: L)) : ∀ Dl, Dl ∉ keys L → LcR (wkL K p (as.map V.ref)) gg tt te vw σ Dl L Q := fun Dl _ => by
  refine c_refs (fun i acc L' => AccN L acc L') hw (Wk.go ⟨rfl, rfl⟩) (fun i acc L' h => ?_) ?_ ?_
  · rw [h.2]; exact IsL.tl hx
  · rintro i acc L' hi ⟨rfl, rfl⟩
    exact hs i Dl hi
  · rintro acc L' ⟨rfl, rfl⟩
    exact hd Dl
/-- a filter of ints by a test -/
def AccB (acc : List V) (b : Bool) (v : V) (L : Lg) : List V → Lg → Prop := fun acc' L' => acc' = (if b = true then acc ++ [v] else acc) ∧ L' = L
theorem a_filt (f : Int → Bool) (hx : IsL K L p xs) (hv : IntsV xs ns) (hw : wipe σ vw = σw) (hz : ns.length ≤ 1000000)
    (hs : ∀ (x : Int) (acc : List V) (Dl : Addr), x ∈ ns → acc.length < 1000000 → gg (.int x) σw ([(Dl, .lst acc)] :: L) (LcT tt te Dl acc (AccB acc (f x) (.int x) L) σw vw))
    (hd : ∀ Dl, Wk (Q (.ref Dl)) ([(Dl, .lst ((ns.filter f).map V.int))] :: L)) : ∀ Dl, Dl ∉ keys L → LcR (wkL K p xs) gg tt te vw σ Dl L Q := fun Dl _ => by
  have hv := hv.eq
  subst hv
  refine c_list (fun i acc L' => acc = ((ns.take i).filter f).map V.int ∧ i ≤ ns.length ∧ L' = L) hw (Wk.go ⟨by simp, Nat.zero_le _, rfl⟩) (fun i acc L' h => ?_) ?_ ?_
  · rw [h.2.2]; exact IsL.tl hx
  · rintro i acc x L' hi ⟨rfl, hl, rfl⟩
    rw [List.getElem?_map] at hi
    obtain ⟨y, hy, rfl⟩ := Option.map_eq_some_iff.mp hi
    have hlt : i < ns.length := (List.getElem?_eq_some_iff.mp hy).1
    have hle : ((ns.take i).filter f).length ≤ i := Nat.le_trans (List.length_filter_le _ _) (by simp; omega)
    have := hs y (((ns.take i).filter f).map V.int) Dl (List.mem_of_getElem? hy) (by rw [List.length_map]; omega)
    have e : AccB (((ns.take i).filter f).map V.int) (f y) (.int y) L' = fun acc' L'' => acc' = ((ns.take (i + 1)).filter f).map V.int ∧ i + 1 ≤ ns.length ∧ L'' = L' := by
      funext a b
      unfold AccB
      rw [List.take_succ, hy]
      have : i + 1 ≤ ns.length := hlt
      cases hf : f y <;> simp [this, hf]
    rw [e] at this
    exact this
  · rintro acc L' ⟨rfl, _, rfl⟩
    rw [List.length_map, List.take_length]
    exact hd Dl
theorem s_flt {acc : List V} {Dl : Addr} {b c : Bool} {v : V} {L3 : Lg} (e : b = c) (h : te σ L3 (LcY Dl acc (AccI acc v L))) (l : Lic L3 ([(Dl, .lst acc)] :: L)) : if b = true then te σ L3 (LcY Dl acc (AccB acc c v L)) else LcN Dl acc (AccB acc c v L) L3 := by
  subst e
  cases b
  · rw [if_neg (by simp)]
    exact s_lcn l ⟨rfl, rfl⟩
  · rw [if_pos rfl]
    exact h
/-- the test known: the turn's end -/
theorem s_lcyB {acc : List V} {Dl : Addr} {c : Bool} {x v : V} {L4 : Lg} (hc : c = true) (hz : acc.length < 1000000) (l : Lic L4 ([(Dl, .lst acc)] :: L)) (e : x = v) : LcY Dl acc (AccB acc c v L) x L4 := s_lcy hz l ⟨by rw [if_pos hc, e], rfl⟩
theorem s_lcnB {acc : List V} {Dl : Addr} {c : Bool} {v : V} {L4 : Lg} (hc : c = false) (l : Lic L4 ([(Dl, .lst acc)] :: L)) : LcN Dl acc (AccB acc c v L) L4 := s_lcn l ⟨by rw [hc]; rfl, rfl⟩
end
/-- rows put, one by one -/
def putsM (rows : List (List Int)) (ws : List (Int × List Int)) : List (List Int) := ws.foldl (fun rs w => rs.set w.1.toNat w.2) rows
theorem putsM_len : ∀ (ws : List (Int × List Int)) (rows : List (List Int)), (putsM rows ws).length = rows.length
  | [], _ => rfl
  | w :: ws, rows => by
    show (putsM (rows.set w.1.toNat w.2) ws).length = _
    rw [putsM_len ws, List.length_set]
theorem putsM_take {ws : List (Int × List Int)} {rows : List (List Int)} {i : Nat} {w : Int × List Int} (h : ws[i]? = some w) : putsM rows (ws.take (i + 1)) = (putsM rows (ws.take i)).set w.1.toNat w.2 := by
  rw [List.take_succ, h]
  simp [putsM, List.foldl_append]
theorem putsM_all {m : Nat} : ∀ (ws : List (Int × List Int)) (rows : List (List Int)), (∀ r ∈ rows, r.length = m) → (∀ w ∈ ws, w.2.length = m) → ∀ r ∈ putsM rows ws, r.length = m
  | [], _, h, _ => h
  | w :: ws, rows, h, hw => putsM_all ws _ (fun r hr => by
      rcases List.mem_or_eq_of_mem_set hr with h' | h'
      · exact h r h'
      · rw [h']; exact hw w List.mem_cons_self) fun w' hw' => hw w' (List.mem_cons_of_mem _ hw')
end VM

end

section
namespace VM
open PySem PySem.Spec L2
open PyProof.Rows hiding St

/-! ### defaults -/
def OkMD (P : Program) (w : World) (K : PySem.W.Frag) (mg : Str → Option Value) (base : Heap) (k : Nat) (f : Addr) (ps : List Str) (dvs : List V) (sp : LSp) : Prop := ∃ fd, FnOk P w K mg base CX0 k f fd ps (UpP sp) ∧ (∀ j, j ≤ dvs.length → ∃ ds, Vals (dvs.drop j) ds ∧ Binds K fd ps ds) ∧ PySem.W.keepIn K (.ref f) = true
def OkFD (P : Program) (w : World) (K : PySem.W.Frag) (mg : Str → Option Value) (base : Heap) (k : Nat) (x : Str) (ps : List Str) (dvs : List V) (sp : LSp) : Prop := mg x = some (.ref (He.ga K x)) ∧ OkMD P w K mg base k (He.ga K x) ps dvs sp
def CatK (dl : List V) (P : List V → Lg → Prop) : List V → Lg → Prop := fun vs L => P (vs ++ dl) L
def lCallD (dl : List V) (sp : LSp) (t : LTA) : LTE := fun σ L Q => t σ L (CatK dl fun vs => Wk fun L1 => sp vs L1 Q noX)
def lMakeD (C : Addr) (dl : List V) (sp : LSp) (t : LTA) : LTE := fun σ L Q => t σ L (CatK dl (MakeP C sp Q))
section
variable {X : Cx} {k : Nat} {f C : Addr} {ps : List Str} {dvs dl : List V} {sp : LSp} {x m : Str} {p pos apos : Pos} {e o : Expr} {es : List Expr} {ta te : LTE} {t : LTA}
theorem lcallOD (G : OkFD X.prog X.w X.K X.mg X.base k x ps dvs sp) (j : Nat) (hj : j ≤ dvs.length) (hd : dvs.drop j = dl) (hr : Room k X.A) (hg : Gl X x) (ha : LA X (e :: es) t) (hdb : (x == ("__debug__" : Str)) = false := by decide)
    (he : starEach (e :: es) X.env = (false, eval e X.env) :: starEach es X.env := by rfl) (hpl : (backTo pos (starEach es X.env)).any (·.1) = false := by rfl) : LE X (.Call (.Name x p) (e :: es) [] pos) (lCallD dl sp t) := by
  obtain ⟨hm, fd, F, hb, kp⟩ := G
  obtain ⟨ds, rd, b⟩ := hb j hj
  rw [hd] at rd
  exact lcall (E := noX) (dvs := dl) (FnOk.wk F) hr hg hm kp b rd passN ha hdb he hpl
theorem lmakeOD (M : Mk X.K C f) (hm : X.mg x = some (.ref C)) (G : OkMD X.prog X.w X.K X.mg X.base k f ps dvs sp) (j : Nat) (hj : j ≤ dvs.length) (hd : dvs.drop j = dl) (hr : Room (k + 1) X.A) (hg : Gl X x)
    (ha : LA X (e :: es) t) (hdb : (x == ("__debug__" : Str)) = false := by decide) (he : starEach (e :: es) X.env = (false, eval e X.env) :: starEach es X.env := by rfl) (hpl : (backTo pos (starEach es X.env)).any (·.1) = false := by rfl) :
    LE X (.Call (.Name x p) (e :: es) [] pos) (lMakeD C dl sp t) := by
  obtain ⟨fd, F, hb, kp⟩ := G
  obtain ⟨ds, rd, b⟩ := hb j hj
  rw [hd] at rd
  exact lmake (E := noX) (dvs := dl) M F hr hg hm b rd passN ha hdb he hpl
end
/-! ### objects of several classes -/
def lAlt (t t' : LTE) : LTE := fun σ L Q => t σ L Q ∨ t' σ L Q
theorem LE.alt {X : Cx} {e : Expr} {t t' : LTE} (p : LE X e t) (q : LE X e t') : LE X e (lAlt t t') := by
  refine ⟨fun pins s σ H Q I h => ?_⟩
  obtain ⟨L, QL, hL, h, k⟩ := h
  rcases h with h | h
  · exact p.run pins s σ H Q I ⟨L, QL, hL, h, k⟩
  · exact q.run pins s σ H Q I ⟨L, QL, hL, h, k⟩
theorem s_altL {σ : St} {L : Lg} {Q : LVK} {t t' : LTE} (k : t σ L Q) : lAlt t t' σ L Q := .inl k
theorem s_altR {σ : St} {L : Lg} {Q : LVK} {t t' : LTE} (k : t' σ L Q) : lAlt t t' σ L Q := .inr k
def ObjB (K : PySem.W.Frag) (C : Addr) : Bool := decide (PySem.W.findIn K (.ref C) "__class__" = some (some (.builtin "object.__class__"))) && (decide (PySem.W.specialIn K (.builtin "object.__class__") "__get__" = some (some (.builtin "getset_descriptor.__get__"))) && (decide (PySem.W.takesIn K (.builtin "object.__class__") = some true) && decide (PySem.W.mroIn K C (.type "object") = some true)))
theorem ty_o {K : PySem.W.Frag} {L : Lg} {p C dx : Addr} {fs : List (Str × V)} (h : At L p (.ins C dx fs)) (c : Cls K C) (b : ObjB K C = true) : TyXL K L (.ref p) (.ref C) := fun H l => by
  unfold ObjB at b
  simp only [Bool.and_eq_true, decide_eq_true_eq] at b
  exact .base (.ins (h H l) c b.1 b.2.1 b.2.2.1 b.2.2.2)
theorem s_isi_own {K : PySem.W.Frag} {L : Lg} {Q : LVK} {p C D dx : Addr} {fs : List (Str × V)} {r : Bool} (h : At L p (.ins C dx fs)) (c : Cls K C) (b : ObjB K C = true) (hk : PySem.W.kitOne K (.ref C) (.ref D) = some r) (k : Q (.bl r) L) : lIsi K [.ref p, .ref D] L Q :=
  ⟨.ref p, .ref D, .ref C, .ref D, r, rfl, .own D, ty_o h c b, hk, k⟩
/-! ### plain steps, found by their head -/
class S1 (g : Prop) (n : outParam Prop) : Prop where
  go : n → g
class SN (g : Prop) (n : outParam Prop) : Prop where
  go : n → g
instance (priority := low) SN.base {g : Prop} : SN g g := ⟨id⟩
instance SN.more {g m n : Prop} [a : S1 g m] [b : SN m n] : SN g n := ⟨fun h => a.go (b.go h)⟩
class SX (g : Prop) (n : outParam Prop) : Prop where
  go : n → g
instance SX.mk1 {g m n : Prop} [a : S1 g m] [b : SN m n] : SX g n := ⟨fun h => a.go (b.go h)⟩
class SlotIs (σ : St) (i : Nat) (v : outParam V) : Prop where
  get : σ[i]? = some (some v)
instance SlotIs.zero {v : V} {σ : St} : SlotIs (some v :: σ) 0 v := ⟨rfl⟩
instance SlotIs.succ {x : Option V} {σ : St} {i : Nat} {v : V} [h : SlotIs σ i v] : SlotIs (x :: σ) (i + 1) v := ⟨h.get⟩
class SetIs (v : V) (σ : St) (i : Nat) (σ' : outParam St) : Prop where
  set : SetAt v σ i σ'
instance SetIs.zero {x : Option V} {v : V} {σ : St} : SetIs v (x :: σ) 0 (some v :: σ) := ⟨.hd⟩
instance SetIs.succ {x : Option V} {σ σ' : St} {i : Nat} {v : V} [h : SetIs v σ i σ'] : SetIs v (x :: σ) (i + 1) (x :: σ') := ⟨.tl h.set⟩
section
variable {σ σ' : St} {L L' : Lg} {Q : LVK} {i : Nat} {v : V} {ta tb te : LTE} {tr : LTA} {t u : LTT} {K : PySem.W.Frag}
instance j_var [h : SlotIs σ i v] : S1 (lVar i σ L Q) (Q v L) := ⟨s_var h.get⟩
instance j_c : S1 (lC v σ L Q) (Q v L) := ⟨s_c⟩
instance j_op {r : LR2} : S1 (lOp r ta tb σ L Q) (ta σ L fun x L1 => tb σ L1 fun y L2 => r x y L2 Q) := ⟨s_op⟩
instance j_un {r : LR1} : S1 (lUn r ta σ L Q) (ta σ L fun x L1 => r x L1 Q) := ⟨s_un⟩
instance j_test {Q : Bool → Lg → Prop} : S1 (lTest te σ L Q) (te σ L (BlK Q)) := ⟨s_test⟩
instance j_blk {Q : Bool → Lg → Prop} {b : Bool} : S1 (BlK Q (.bl b) L) (Q b L) := ⟨s_blk⟩
instance j_intk {Q : Int → Lg → Prop} {b : Int} : S1 (IntK Q (.int b) L) (Q b L) := ⟨s_intk⟩
instance j_not {Q : Bool → Lg → Prop} : S1 (lNot t σ L Q) (t σ L fun c L1 => Q (!c) L1) := ⟨s_not⟩
instance j_and {Q : Bool → Lg → Prop} : S1 (lAnd t u σ L Q) (t σ L fun c L1 => if c = true then u σ L1 Q else Q false L1) := ⟨s_and⟩
instance j_or {Q : Bool → Lg → Prop} : S1 (lOr t u σ L Q) (t σ L fun c L1 => if c = true then Q true L1 else u σ L1 Q) := ⟨s_or⟩
instance j_andV : S1 (lAndV ta tb σ L Q) (ta σ L (BlK fun c L1 => if c = true then tb σ L1 Q else Q (.bl false) L1)) := ⟨s_andV⟩
instance j_orV : S1 (lOrV ta tb σ L Q) (ta σ L (BlK fun c L1 => if c = true then Q (.bl true) L1 else tb σ L1 Q)) := ⟨s_orV⟩
instance j_notV : S1 (lNotV ta σ L Q) (ta σ L (BlK fun c L1 => Q (.bl (!c)) L1)) := ⟨s_notV⟩
instance j_nil {Q : List V → Lg → Prop} : S1 (lNil σ L Q) (Q [] L) := ⟨s_nil⟩
instance j_cons {Q : List V → Lg → Prop} : S1 (lCons te tr σ L Q) (te σ L fun x L1 => tr σ L1 fun xs L2 => Q (x :: xs) L2) := ⟨s_cons⟩
instance j_tup : S1 (lTup tr σ L Q) (tr σ L (NewK .tup Q)) := ⟨s_tup⟩
instance j_lst : S1 (lLst tr σ L Q) (tr σ L (NewK .lst Q)) := ⟨s_lst⟩
instance j_sl {r : V → Option Int → Option Int → Lg → LVK → Prop} {tl th : LTO} : S1 (lSl r te tl th σ L Q) (te σ L fun x L1 => tl σ L1 fun l L2 => th σ L2 fun u L3 => r x l u L3 Q) := ⟨s_sl⟩
instance j_nopart {Q : Option Int → Lg → Prop} : S1 (lNoPart σ L Q) (Q none L) := ⟨s_nopart⟩
instance j_part {Q : Option Int → Lg → Prop} : S1 (lPart te σ L Q) (te σ L (IntK fun i L1 => Q (some i) L1)) := ⟨s_part⟩
instance j_cb {r : LRC} : S1 (lCB r tr σ L Q) (tr σ L fun vs L1 => r vs L1 Q) := ⟨s_cb⟩
instance j_bm0 {T : String} {r : V → LRC} : S1 (lBM0 K T r te σ L Q) (te σ L fun x L1 => TyL K T x L1 ∧ r x [] L1 Q) := ⟨s_bm0⟩
instance j_bm {T : String} {r : V → LRC} : S1 (lBM K T r te tr σ L Q) (te σ L fun x L1 => TyL K T x L1 ∧ tr σ L1 fun xs L2 => r x xs L2 Q) := ⟨s_bm⟩
instance j_fld {f : Str} : S1 (lFld K te f σ L Q) (te σ L fun x L1 => FldL K f x L1 Q) := ⟨s_fld⟩
instance j_tru {r : V → Lg → (Bool → Lg → Prop) → Prop} {Q : Bool → Lg → Prop} : S1 (lTru r te σ L Q) (te σ L fun x L1 => r x L1 Q) := ⟨s_tru⟩
instance j_yes {Q : Bool → Lg → Prop} : S1 (lYes σ L Q) (Q true L) := ⟨s_yes⟩
instance j_callP {sp : LSp} : S1 (lCallP sp tr σ L Q) (tr σ L fun vs => Wk fun L1 => sp vs L1 Q noX) := ⟨s_callP⟩
instance j_callD {sp : LSp} {dl : List V} : S1 (lCallD dl sp tr σ L Q) (tr σ L (CatK dl fun vs => Wk fun L1 => sp vs L1 Q noX)) := ⟨id⟩
instance j_makeD {C : Addr} {sp : LSp} {dl : List V} : S1 (lMakeD C dl sp tr σ L Q) (tr σ L (CatK dl (MakeP C sp Q))) := ⟨id⟩
instance j_cat0 {P : List V → Lg → Prop} {vs : List V} : S1 (CatK [] P vs L) (P vs L) := ⟨fun h => by unfold CatK; rw [List.append_nil]; exact h⟩
instance j_cat11 {P : List V → Lg → Prop} {a d : V} : S1 (CatK [d] P [a] L) (P [a, d] L) := ⟨id⟩
instance j_cat21 {P : List V → Lg → Prop} {a b d : V} : S1 (CatK [d] P [a, b] L) (P [a, b, d] L) := ⟨id⟩
instance j_cat31 {P : List V → Lg → Prop} {a b c d : V} : S1 (CatK [d] P [a, b, c] L) (P [a, b, c, d] L) := ⟨id⟩
instance j_cat41 {P : List V → Lg → Prop} {a b c e d : V} : S1 (CatK [d] P [a, b, c, e] L) (P [a, b, c, e, d] L) := ⟨id⟩
instance j_cat32 {P : List V → Lg → Prop} {a b c e d : V} : S1 (CatK [d, e] P [a, b, c] L) (P [a, b, c, d, e] L) := ⟨id⟩
instance j_methP {C : Addr} {m : Str} {sp : LSp} : S1 (lMethP C m sp ta tr σ L Q) (ta σ L fun x L1 => ObjL C m x L1 ∧ tr σ L1 fun vs => Wk fun L2 => sp (x :: vs) L2 Q noX) := ⟨s_methP⟩
instance j_makeP {C : Addr} {sp : LSp} : S1 (lMakeP C sp tr σ L Q) (tr σ L (MakeP C sp Q)) := ⟨s_makeP⟩
variable {D : LEnds} {s1 s2 : LTS} {g : LTG} {gs : LTGs}
variable {n0 : St → Lg → Prop} {r0 : LVK} {b0 c0 : St → Lg → Prop}
instance j_seq : S1 (lSeq s1 s2 ⟨n0, r0, b0, c0⟩ σ L) (s1 ⟨fun σ' => Wk (s2 ⟨n0, r0, b0, c0⟩ σ'), fun v => Wk (r0 v), fun σ => Wk (b0 σ), fun σ => Wk (c0 σ)⟩ σ L) := ⟨s_seq⟩
instance j_last : S1 (lLast s1 ⟨n0, r0, b0, c0⟩ σ L) (s1 ⟨fun σ => Wk (n0 σ), fun v => Wk (r0 v), fun σ => Wk (b0 σ), fun σ => Wk (c0 σ)⟩ σ L) := ⟨s_last⟩
instance j_next : S1 (lNext ⟨n0, r0, b0, c0⟩ σ L) (n0 σ L) := ⟨s_next⟩
instance j_drop : S1 (lDrop te ⟨n0, r0, b0, c0⟩ σ L) (te σ L fun _ L1 => n0 σ L1) := ⟨s_drop⟩
instance j_ret : S1 (lRet te ⟨n0, r0, b0, c0⟩ σ L) (te σ L r0) := ⟨s_ret⟩
instance j_retN : S1 (lRetN ⟨n0, r0, b0, c0⟩ σ L) (r0 .non L) := ⟨s_retN⟩
instance j_break : S1 (lBreak ⟨n0, r0, b0, c0⟩ σ L) (b0 σ L) := ⟨s_break⟩
instance j_cont : S1 (lCont ⟨n0, r0, b0, c0⟩ σ L) (c0 σ L) := ⟨s_cont⟩
instance j_if : S1 (lIf t s1 s2 D σ L) (t σ L fun b L1 => if b = true then s1 D σ L1 else s2 D σ L1) := ⟨s_if⟩
instance j_asg : S1 (lAsg te g ⟨n0, r0, b0, c0⟩ σ L) (te σ L fun x L1 => g x σ L1 n0) := ⟨s_asg⟩
instance j_name {Q : St → Lg → Prop} [h : SetIs v σ i σ'] : S1 (hName i v σ L Q) (Q σ' L) := ⟨s_name h.set⟩
instance j_hnil {Q : St → Lg → Prop} : S1 (hNil [] σ L Q) (Q σ L) := ⟨s_hnil⟩
instance j_hcons {vs : List V} {Q : St → Lg → Prop} : S1 (hCons g gs (v :: vs) σ L Q) (g v σ L fun σ' L' => gs vs σ' L' Q) := ⟨s_hcons⟩
instance j_hsub {r : LTSet} {Q : St → Lg → Prop} : S1 (hSub ta tb r v σ L Q) (ta σ L fun o L1 => tb σ L1 fun i L2 => r o i v L2 fun L3 => Q σ L3) := ⟨s_hsub⟩
instance j_setf {f : Str} {tv : LTE} : S1 (lSetF K ta tv f ⟨n0, r0, b0, c0⟩ σ L) (tv σ L fun y L1 => ta σ L1 fun x L2 => SetFL K f x y L2 (n0 σ)) := ⟨s_setf⟩
instance j_for {wi : LTI} : S1 (lFor wi g s1 D σ L) (wi σ L fun W L1 => ForR W g s1 D σ L1) := ⟨s_for⟩
instance j_iteT {A B : Prop} : S1 (if true = true then A else B) A := ⟨iteT⟩
instance j_iteF {A B : Prop} : S1 (if false = true then A else B) B := ⟨iteF⟩
variable {R : LWk → Lg → Prop}
instance j_rng1 : S1 (kRng1 tr σ L R) (tr σ L (RngK1 R)) := ⟨s_rng1⟩
instance j_rng2 : S1 (kRng2 tr σ L R) (tr σ L (RngK2 R)) := ⟨s_rng2⟩
instance j_kseq {tl : LTE} : S1 (kSeq K tl σ L R) (tl σ L (SeqK K R)) := ⟨s_kseq⟩
instance j_ktup {tl : LTE} : S1 (kTup K tl σ L R) (tl σ L (TupK K R)) := ⟨s_ktup⟩
/-! operations on ints -/
variable {a b : Int}
instance j_add : S1 (gAdd K (.int a) (.int b) L Q) (Q (.int (a + b)) L) := ⟨s_add_i⟩
instance j_ii {g : Int → Int → V} : S1 (iI0 g (.int a) (.int b) L Q) (Q (g a b) L) := ⟨fun h => ⟨a, b, rfl, rfl, h⟩⟩
instance j_eq : S1 (gEq K (.int a) (.int b) L Q) (Q (.bl (decide (a = b))) L) := ⟨s_eq_i⟩
instance j_ne : S1 (gNe K (.int a) (.int b) L Q) (Q (.bl (!decide (a = b))) L) := ⟨s_ne_i⟩
instance j_neg : S1 (gNeg (.int a) L Q) (Q (.int (-a)) L) := ⟨s_neg⟩
instance j_eqs {x y : Str} : S1 (gEq K (.str x) (.str y) L Q) (Q (.bl (decide (x = y))) L) := ⟨s_eq_s⟩
instance j_nes {x y : Str} : S1 (gNe K (.str x) (.str y) L Q) (Q (.bl (!decide (x = y))) L) := ⟨s_ne_s⟩
instance j_eqb {x y : Bool} : S1 (gEq K (.bl x) (.bl y) L Q) (Q (.bl (decide (x = y))) L) := ⟨s_eq_b⟩
instance j_neb {x y : Bool} : S1 (gNe K (.bl x) (.bl y) L Q) (Q (.bl (!decide (x = y))) L) := ⟨s_ne_b⟩
instance j_trub {Q : Bool → Lg → Prop} {b : Bool} : S1 (gTru K (.bl b) L Q) (Q b L) := ⟨s_tru_b⟩
instance j_abs : S1 (gAbs [.int a] L Q) (Q (.int (if a < 0 then -a else a)) L) := ⟨s_abs⟩
instance j_max : S1 (gMax2 [.int a, .int b] L Q) (Q (.int (if b > a then b else a)) L) := ⟨s_max2⟩
instance j_min : S1 (gMin2 [.int a, .int b] L Q) (Q (.int (if b < a then b else a)) L) := ⟨s_min2⟩
end
end VM

end

section
namespace VM
open PySem PySem.Spec L2
open PyProof.Rows hiding St

/-! ### loops where some slots change -/
def SlW (σ0 : St) (ks : List Nat) (P : Nat → Lg → Prop) : Nat → St → Lg → Prop := fun i σ L => wipe σ ks = wipe σ0 ks ∧ P i L
theorem unset {α : Type} {σ τ : List (Option α)} {k : Nat} (h : σ.set k none = τ) : ∃ a, σ = τ.set k a := by
  subst h
  by_cases hk : k < σ.length
  · refine ⟨σ[k], ?_⟩
    rw [List.set_set]
    apply List.ext_getElem?
    intro m
    rw [List.getElem?_set]
    by_cases e : k = m
    · subst e
      rw [if_pos rfl, if_pos hk, List.getElem?_eq_getElem hk]
    · rw [if_neg e]
  · refine ⟨none, ?_⟩
    have e : ∀ x, σ.set k x = σ := fun x => List.set_eq_of_length_le (by omega)
    rw [e, e]
theorem wipe_sets {σ0 : St} : ∀ {ks : List Nat} {k : Nat} {a : Option V} {σ : St}, k ∈ ks → wipe (σ.set k a) ks = wipe σ ks
  | j :: ks, k, a, σ, h => by
    show (wipe (σ.set k a) ks).set j none = (wipe σ ks).set j none
    by_cases e : j = k
    · subst e
      by_cases hk : j ∈ ks
      · rw [wipe_sets (σ0 := σ0) hk]
      · have : ∀ (ks : List Nat) (σ : St), j ∉ ks → wipe (σ.set j a) ks = (wipe σ ks).set j a := by
          intro ks
          induction ks with
          | nil => intro σ _; rfl
          | cons m ks ih =>
            intro σ hm
            simp only [List.mem_cons, not_or] at hm
            show (wipe (σ.set j a) ks).set m none = ((wipe σ ks).set m none).set j a
            rw [ih σ hm.2, List.set_comm _ _ hm.1]
        rw [this ks σ hk, List.set_set]
    · rcases List.mem_cons.mp h with h | h
      · exact absurd h.symm e
      · rw [wipe_sets (σ0 := σ0) h]
section
variable {K : PySem.W.Frag} {σ : St} {L : Lg} {gg : LTG} {tb : LTS} {n0 : St → Lg → Prop} {r0 : LVK} {b0 c0 : St → Lg → Prop} {lo : Int} {n : Nat} {p : Addr} {xs : List V} {ns : List Int} {as : List Addr} {ws : List (Int × List Int)} {ts : List (List Int)} {c : Chunk}
theorem TelAll.tup {i : Nat} {x : V} (h : TelAll c xs (ts.map dT)) (hx : xs[i]? = some x) : ∃ r t, ts[i]? = some r ∧ x = .ref t ∧ (t, HO.tup (r.map V.int)) ∈ c := by
  obtain ⟨e, he, t⟩ := h.get hx
  rw [List.getElem?_map] at he
  obtain ⟨w, hw, rfl⟩ := Option.map_eq_some_iff.mp he
  obtain ⟨t, e, h1⟩ := t.dT_inv
  exact ⟨w, t, hw, e, h1⟩
theorem f_intsT (Pv : Nat → St → Lg → Prop) (hv : IntsV xs ns) (h0 : Wk (Pv 0 σ) L) (hG : ∀ i σ L, Pv i σ L → IsT K L p xs) (hs : ∀ (i : Nat) (x : Int) σ L, ns[i]? = some x → Pv i σ L → gg (.int x) σ L fun σ2 L2 => tb ⟨Pv (i + 1), r0, n0, Pv (i + 1)⟩ σ2 L2) (hd : ∀ σ L, Pv ns.length σ L → n0 σ L) : ForR (wkT K p xs) gg tb ⟨n0, r0, b0, c0⟩ σ L := by
  have e := hv.eq
  subst e
  refine f_tup Pv h0 hG (fun i x σ L hx hp => ?_) (fun σ L hp => hd σ L (by rw [List.length_map] at hp; exact hp))
  rw [List.getElem?_map] at hx
  obtain ⟨y, hy, rfl⟩ := Option.map_eq_some_iff.mp hx
  exact hs i y σ L hy hp
/-! loops over lists of tuples -/
theorem f_tups (Pv : Nat → St → Lg → Prop) (ht : TelAll c xs (ts.map dT)) (h0 : Wk (Pv 0 σ) L) (hG : ∀ i σ L, Pv i σ L → IsL K L p xs)
    (hs : ∀ (i : Nat) r t σ L, ts[i]? = some r → (t, HO.tup (r.map V.int)) ∈ c → Pv i σ L → gg (.ref t) σ L fun σ2 L2 => tb ⟨Pv (i + 1), r0, n0, Pv (i + 1)⟩ σ2 L2) (hd : ∀ σ L, Pv ts.length σ L → n0 σ L) : ForR (wkL K p xs) gg tb ⟨n0, r0, b0, c0⟩ σ L := by
  refine f_list Pv h0 hG (fun i x σ L hx hp => ?_) (fun σ L hp => hd σ L (by rw [ht.len, List.length_map] at hp; exact hp))
  obtain ⟨r, t, hw, rfl, h1⟩ := ht.tup hx
  exact hs i r t σ L hw h1 hp
theorem unw1 {σ σ1 : St} {k0 : Nat} (h : wipe σ1 [k0] = wipe σ [k0]) : ∃ a0, σ1 = ((wipe σ [k0]).set k0 a0) := by
  generalize wipe σ [k0] = τ at h ⊢
  obtain ⟨a0, h⟩ := unset h
  exact ⟨a0, h⟩
def SlV1 (σ : St) (k0 : Nat) (P : Nat → Option V → Lg → Prop) : Nat → St → Lg → Prop := fun i σ1 L => ∃ a0, σ1 = ((wipe σ [k0]).set k0 a0) ∧ P i a0 L
theorem frv_1 {k0 : Nat} (P : Nat → Option V → Lg → Prop) (h0 : Wk (SlV1 σ k0 P 0 σ) L) (hs : ∀ (i : Nat) a0 L, i < n → P i a0 L → gg (.int (i : Int)) ((wipe σ [k0]).set k0 a0) L (fun σ2 L2 => tb ⟨SlV1 σ k0 P (i + 1), r0, n0, SlV1 σ k0 P (i + 1)⟩ σ2 L2)) (hd : ∀ a0 L, P n a0 L → n0 ((wipe σ [k0]).set k0 a0) L) : ForR (wkR 0 n) gg tb ⟨n0, r0, b0, c0⟩ σ L := by
  refine f_range0 (SlV1 σ k0 P) h0 ?_ ?_
  · rintro i σ1 L hi ⟨a0, rfl, hP⟩
    exact hs i a0 L hi hP
  · rintro σ1 L ⟨a0, rfl, hP⟩
    exact hd a0 L hP
theorem frnv_1 {k0 : Nat} (P : Nat → Option V → Lg → Prop) (h0 : Wk (SlV1 σ k0 P 0 σ) L) (hs : ∀ (i : Nat) a0 L, i < n → P i a0 L → gg (.int (lo + i)) ((wipe σ [k0]).set k0 a0) L (fun σ2 L2 => tb ⟨SlV1 σ k0 P (i + 1), r0, n0, SlV1 σ k0 P (i + 1)⟩ σ2 L2)) (hd : ∀ a0 L, P n a0 L → n0 ((wipe σ [k0]).set k0 a0) L) : ForR (wkR lo n) gg tb ⟨n0, r0, b0, c0⟩ σ L := by
  refine f_range (SlV1 σ k0 P) h0 ?_ ?_
  · rintro i σ1 L hi ⟨a0, rfl, hP⟩
    exact hs i a0 L hi hP
  · rintro σ1 L ⟨a0, rfl, hP⟩
    exact hd a0 L hP
theorem fiv_1 {k0 : Nat} (P : Nat → Option V → Lg → Prop) (hv : IntsV xs ns) (h0 : Wk (SlV1 σ k0 P 0 σ) L) (hG : ∀ i a0 L, P i a0 L → IsL K L p xs) (hs : ∀ (i : Nat) (x : Int) a0 L, ns[i]? = some x → P i a0 L → gg (.int x) ((wipe σ [k0]).set k0 a0) L (fun σ2 L2 => tb ⟨SlV1 σ k0 P (i + 1), r0, n0, SlV1 σ k0 P (i + 1)⟩ σ2 L2)) (hd : ∀ a0 L, P ns.length a0 L → n0 ((wipe σ [k0]).set k0 a0) L) : ForR (wkL K p xs) gg tb ⟨n0, r0, b0, c0⟩ σ L := by
  refine f_ints (SlV1 σ k0 P) hv h0 (fun i σ1 L ⟨a0, _, h⟩ => hG i a0 L h) ?_ ?_
  · rintro i x σ1 L hi ⟨a0, rfl, hP⟩
    exact hs i x a0 L hi hP
  · rintro σ1 L ⟨a0, rfl, hP⟩
    exact hd a0 L hP
theorem fvv_1 {k0 : Nat} (P : Nat → Option V → Lg → Prop) (h0 : Wk (SlV1 σ k0 P 0 σ) L) (hG : ∀ i a0 L, P i a0 L → IsL K L p (as.map V.ref)) (hs : ∀ (i : Nat) a0 L, i < as.length → P i a0 L → gg (.ref (adrAt as (i : Int))) ((wipe σ [k0]).set k0 a0) L (fun σ2 L2 => tb ⟨SlV1 σ k0 P (i + 1), r0, n0, SlV1 σ k0 P (i + 1)⟩ σ2 L2)) (hd : ∀ a0 L, P as.length a0 L → n0 ((wipe σ [k0]).set k0 a0) L) : ForR (wkL K p (as.map V.ref)) gg tb ⟨n0, r0, b0, c0⟩ σ L := by
  refine f_refs (SlV1 σ k0 P) h0 (fun i σ1 L ⟨a0, _, h⟩ => hG i a0 L h) ?_ ?_
  · rintro i σ1 L hi ⟨a0, rfl, hP⟩
    exact hs i a0 L hi hP
  · rintro σ1 L ⟨a0, rfl, hP⟩
    exact hd a0 L hP
theorem fpv_1 {k0 : Nat} (P : Nat → Option V → Lg → Prop) (ht : TelAll c xs (ws.map VM.dP)) (h0 : Wk (SlV1 σ k0 P 0 σ) L) (hG : ∀ i a0 L, P i a0 L → IsL K L p xs) (hs : ∀ (i : Nat) b r t a a0 L, ws[i]? = some (b, r) → (t, HO.tup [.int b, .ref a]) ∈ c → (a, HO.lst (r.map V.int)) ∈ c → P i a0 L → gg (.ref t) ((wipe σ [k0]).set k0 a0) L (fun σ2 L2 => tb ⟨SlV1 σ k0 P (i + 1), r0, n0, SlV1 σ k0 P (i + 1)⟩ σ2 L2)) (hd : ∀ a0 L, P ws.length a0 L → n0 ((wipe σ [k0]).set k0 a0) L) : ForR (wkL K p xs) gg tb ⟨n0, r0, b0, c0⟩ σ L := by
  refine f_pairs (SlV1 σ k0 P) ht h0 (fun i σ1 L ⟨a0, _, h⟩ => hG i a0 L h) ?_ ?_
  · rintro i b r t a σ1 L hi m1 m2 ⟨a0, rfl, hP⟩
    exact hs i b r t a a0 L hi m1 m2 hP
  · rintro σ1 L ⟨a0, rfl, hP⟩
    exact hd a0 L hP
theorem fqv_1 {k0 : Nat} (P : Nat → Option V → Lg → Prop) (ht : TelAll c xs (ts.map dT)) (h0 : Wk (SlV1 σ k0 P 0 σ) L) (hG : ∀ i a0 L, P i a0 L → IsL K L p xs) (hs : ∀ (i : Nat) r t a0 L, ts[i]? = some r → (t, HO.tup (r.map V.int)) ∈ c → P i a0 L → gg (.ref t) ((wipe σ [k0]).set k0 a0) L (fun σ2 L2 => tb ⟨SlV1 σ k0 P (i + 1), r0, n0, SlV1 σ k0 P (i + 1)⟩ σ2 L2)) (hd : ∀ a0 L, P ts.length a0 L → n0 ((wipe σ [k0]).set k0 a0) L) : ForR (wkL K p xs) gg tb ⟨n0, r0, b0, c0⟩ σ L := by
  refine f_tups (SlV1 σ k0 P) ht h0 (fun i σ1 L ⟨a0, _, h⟩ => hG i a0 L h) ?_ ?_
  · rintro i r t σ1 L hi m1 ⟨a0, rfl, hP⟩
    exact hs i r t a0 L hi m1 hP
  · rintro σ1 L ⟨a0, rfl, hP⟩
    exact hd a0 L hP
theorem fr_1 {k0 : Nat} (P : Nat → Lg → Prop) (h0 : Wk (P 0) L) (hs : ∀ (i : Nat) a0 L, i < n → P i L → gg (.int (i : Int)) ((wipe σ [k0]).set k0 a0) L (fun σ2 L2 => tb ⟨SlW σ [k0] P (i + 1), r0, n0, SlW σ [k0] P (i + 1)⟩ σ2 L2)) (hd : ∀ a0 L, P n L → n0 ((wipe σ [k0]).set k0 a0) L) : ForR (wkR 0 n) gg tb ⟨n0, r0, b0, c0⟩ σ L := by
  obtain ⟨L0, l0, q0⟩ := h0
  refine f_range0 (SlW σ [k0] P) ⟨L0, l0, rfl, q0⟩ ?_ ?_
  · rintro i σ1 L hi ⟨hσ, hP⟩
    obtain ⟨a0, rfl⟩ := unw1 hσ
    exact hs i a0 L hi hP
  · rintro σ1 L ⟨hσ, hP⟩
    obtain ⟨a0, rfl⟩ := unw1 hσ
    exact hd a0 L hP
theorem frn_1 {k0 : Nat} (P : Nat → Lg → Prop) (h0 : Wk (P 0) L) (hs : ∀ (i : Nat) a0 L, i < n → P i L → gg (.int (lo + i)) ((wipe σ [k0]).set k0 a0) L (fun σ2 L2 => tb ⟨SlW σ [k0] P (i + 1), r0, n0, SlW σ [k0] P (i + 1)⟩ σ2 L2)) (hd : ∀ a0 L, P n L → n0 ((wipe σ [k0]).set k0 a0) L) : ForR (wkR lo n) gg tb ⟨n0, r0, b0, c0⟩ σ L := by
  obtain ⟨L0, l0, q0⟩ := h0
  refine f_range (SlW σ [k0] P) ⟨L0, l0, rfl, q0⟩ ?_ ?_
  · rintro i σ1 L hi ⟨hσ, hP⟩
    obtain ⟨a0, rfl⟩ := unw1 hσ
    exact hs i a0 L hi hP
  · rintro σ1 L ⟨hσ, hP⟩
    obtain ⟨a0, rfl⟩ := unw1 hσ
    exact hd a0 L hP
theorem fi_1 {k0 : Nat} (P : Nat → Lg → Prop) (hv : IntsV xs ns) (h0 : Wk (P 0) L) (hG : ∀ i L, P i L → IsL K L p xs) (hs : ∀ (i : Nat) (x : Int) a0 L, ns[i]? = some x → P i L → gg (.int x) ((wipe σ [k0]).set k0 a0) L (fun σ2 L2 => tb ⟨SlW σ [k0] P (i + 1), r0, n0, SlW σ [k0] P (i + 1)⟩ σ2 L2)) (hd : ∀ a0 L, P ns.length L → n0 ((wipe σ [k0]).set k0 a0) L) : ForR (wkL K p xs) gg tb ⟨n0, r0, b0, c0⟩ σ L := by
  obtain ⟨L0, l0, q0⟩ := h0
  refine f_ints (SlW σ [k0] P) hv ⟨L0, l0, rfl, q0⟩ (fun i σ1 L h => hG i L h.2) ?_ ?_
  · rintro i x σ1 L hi ⟨hσ, hP⟩
    obtain ⟨a0, rfl⟩ := unw1 hσ
    exact hs i x a0 L hi hP
  · rintro σ1 L ⟨hσ, hP⟩
    obtain ⟨a0, rfl⟩ := unw1 hσ
    exact hd a0 L hP
theorem fv_1 {k0 : Nat} (P : Nat → Lg → Prop) (h0 : Wk (P 0) L) (hG : ∀ i L, P i L → IsL K L p (as.map V.ref)) (hs : ∀ (i : Nat) a0 L, i < as.length → P i L → gg (.ref (adrAt as (i : Int))) ((wipe σ [k0]).set k0 a0) L (fun σ2 L2 => tb ⟨SlW σ [k0] P (i + 1), r0, n0, SlW σ [k0] P (i + 1)⟩ σ2 L2)) (hd : ∀ a0 L, P as.length L → n0 ((wipe σ [k0]).set k0 a0) L) : ForR (wkL K p (as.map V.ref)) gg tb ⟨n0, r0, b0, c0⟩ σ L := by
  obtain ⟨L0, l0, q0⟩ := h0
  refine f_refs (SlW σ [k0] P) ⟨L0, l0, rfl, q0⟩ (fun i σ1 L h => hG i L h.2) ?_ ?_
  · rintro i σ1 L hi ⟨hσ, hP⟩
    obtain ⟨a0, rfl⟩ := unw1 hσ
    exact hs i a0 L hi hP
  · rintro σ1 L ⟨hσ, hP⟩
    obtain ⟨a0, rfl⟩ := unw1 hσ
    exact hd a0 L hP
theorem fl_1 {k0 : Nat} (P : Nat → Lg → Prop) (h0 : Wk (P 0) L) (hG : ∀ i L, P i L → IsL K L p xs) (hs : ∀ (i : Nat) (x : V) a0 L, xs[i]? = some x → P i L → gg x ((wipe σ [k0]).set k0 a0) L (fun σ2 L2 => tb ⟨SlW σ [k0] P (i + 1), r0, n0, SlW σ [k0] P (i + 1)⟩ σ2 L2)) (hd : ∀ a0 L, P xs.length L → n0 ((wipe σ [k0]).set k0 a0) L) : ForR (wkL K p xs) gg tb ⟨n0, r0, b0, c0⟩ σ L := by
  obtain ⟨L0, l0, q0⟩ := h0
  refine f_list (SlW σ [k0] P) ⟨L0, l0, rfl, q0⟩ (fun i σ1 L h => hG i L h.2) ?_ ?_
  · rintro i x σ1 L hi ⟨hσ, hP⟩
    obtain ⟨a0, rfl⟩ := unw1 hσ
    exact hs i x a0 L hi hP
  · rintro σ1 L ⟨hσ, hP⟩
    obtain ⟨a0, rfl⟩ := unw1 hσ
    exact hd a0 L hP
theorem ft_1 {k0 : Nat} (P : Nat → Lg → Prop) (h0 : Wk (P 0) L) (hG : ∀ i L, P i L → IsT K L p xs) (hs : ∀ (i : Nat) (x : V) a0 L, xs[i]? = some x → P i L → gg x ((wipe σ [k0]).set k0 a0) L (fun σ2 L2 => tb ⟨SlW σ [k0] P (i + 1), r0, n0, SlW σ [k0] P (i + 1)⟩ σ2 L2)) (hd : ∀ a0 L, P xs.length L → n0 ((wipe σ [k0]).set k0 a0) L) : ForR (wkT K p xs) gg tb ⟨n0, r0, b0, c0⟩ σ L := by
  obtain ⟨L0, l0, q0⟩ := h0
  refine f_tup (SlW σ [k0] P) ⟨L0, l0, rfl, q0⟩ (fun i σ1 L h => hG i L h.2) ?_ ?_
  · rintro i x σ1 L hi ⟨hσ, hP⟩
    obtain ⟨a0, rfl⟩ := unw1 hσ
    exact hs i x a0 L hi hP
  · rintro σ1 L ⟨hσ, hP⟩
    obtain ⟨a0, rfl⟩ := unw1 hσ
    exact hd a0 L hP
theorem fp_1 {k0 : Nat} (P : Nat → Lg → Prop) (ht : TelAll c xs (ws.map VM.dP)) (h0 : Wk (P 0) L) (hG : ∀ i L, P i L → IsL K L p xs) (hs : ∀ (i : Nat) b r t a a0 L, ws[i]? = some (b, r) → (t, HO.tup [.int b, .ref a]) ∈ c → (a, HO.lst (r.map V.int)) ∈ c → P i L → gg (.ref t) ((wipe σ [k0]).set k0 a0) L (fun σ2 L2 => tb ⟨SlW σ [k0] P (i + 1), r0, n0, SlW σ [k0] P (i + 1)⟩ σ2 L2)) (hd : ∀ a0 L, P ws.length L → n0 ((wipe σ [k0]).set k0 a0) L) : ForR (wkL K p xs) gg tb ⟨n0, r0, b0, c0⟩ σ L := by
  obtain ⟨L0, l0, q0⟩ := h0
  refine f_pairs (SlW σ [k0] P) ht ⟨L0, l0, rfl, q0⟩ (fun i σ1 L h => hG i L h.2) ?_ ?_
  · rintro i b r t a σ1 L hi m1 m2 ⟨hσ, hP⟩
    obtain ⟨a0, rfl⟩ := unw1 hσ
    exact hs i b r t a a0 L hi m1 m2 hP
  · rintro σ1 L ⟨hσ, hP⟩
    obtain ⟨a0, rfl⟩ := unw1 hσ
    exact hd a0 L hP
theorem fit_1 {k0 : Nat} (P : Nat → Lg → Prop) (hv : IntsV xs ns) (h0 : Wk (P 0) L) (hG : ∀ i L, P i L → IsT K L p xs) (hs : ∀ (i : Nat) (x : Int) a0 L, ns[i]? = some x → P i L → gg (.int x) ((wipe σ [k0]).set k0 a0) L (fun σ2 L2 => tb ⟨SlW σ [k0] P (i + 1), r0, n0, SlW σ [k0] P (i + 1)⟩ σ2 L2)) (hd : ∀ a0 L, P ns.length L → n0 ((wipe σ [k0]).set k0 a0) L) : ForR (wkT K p xs) gg tb ⟨n0, r0, b0, c0⟩ σ L := by
  obtain ⟨L0, l0, q0⟩ := h0
  refine f_intsT (SlW σ [k0] P) hv ⟨L0, l0, rfl, q0⟩ (fun i σ1 L h => hG i L h.2) ?_ ?_
  · rintro i x σ1 L hi ⟨hσ, hP⟩
    obtain ⟨a0, rfl⟩ := unw1 hσ
    exact hs i x a0 L hi hP
  · rintro σ1 L ⟨hσ, hP⟩
    obtain ⟨a0, rfl⟩ := unw1 hσ
    exact hd a0 L hP
theorem fq_1 {k0 : Nat} (P : Nat → Lg → Prop) (ht : TelAll c xs (ts.map dT)) (h0 : Wk (P 0) L) (hG : ∀ i L, P i L → IsL K L p xs) (hs : ∀ (i : Nat) r t a0 L, ts[i]? = some r → (t, HO.tup (r.map V.int)) ∈ c → P i L → gg (.ref t) ((wipe σ [k0]).set k0 a0) L (fun σ2 L2 => tb ⟨SlW σ [k0] P (i + 1), r0, n0, SlW σ [k0] P (i + 1)⟩ σ2 L2)) (hd : ∀ a0 L, P ts.length L → n0 ((wipe σ [k0]).set k0 a0) L) : ForR (wkL K p xs) gg tb ⟨n0, r0, b0, c0⟩ σ L := by
  obtain ⟨L0, l0, q0⟩ := h0
  refine f_tups (SlW σ [k0] P) ht ⟨L0, l0, rfl, q0⟩ (fun i σ1 L h => hG i L h.2) ?_ ?_
  · rintro i r t σ1 L hi m1 ⟨hσ, hP⟩
    obtain ⟨a0, rfl⟩ := unw1 hσ
    exact hs i r t a0 L hi m1 hP
  · rintro σ1 L ⟨hσ, hP⟩
    obtain ⟨a0, rfl⟩ := unw1 hσ
    exact hd a0 L hP
theorem unw2 {σ σ1 : St} {k0 k1 : Nat} (h : wipe σ1 [k0, k1] = wipe σ [k0, k1]) : ∃ a0 a1, σ1 = (((wipe σ [k0, k1]).set k0 a0).set k1 a1) := by
  generalize wipe σ [k0, k1] = τ at h ⊢
  obtain ⟨a0, h⟩ := unset h
  obtain ⟨a1, h⟩ := unset h
  exact ⟨a0, a1, h⟩
def SlV2 (σ : St) (k0 k1 : Nat) (P : Nat → Option V → Option V → Lg → Prop) : Nat → St → Lg → Prop := fun i σ1 L => ∃ a0 a1, σ1 = (((wipe σ [k0, k1]).set k0 a0).set k1 a1) ∧ P i a0 a1 L
theorem frv_2 {k0 k1 : Nat} (P : Nat → Option V → Option V → Lg → Prop) (h0 : Wk (SlV2 σ k0 k1 P 0 σ) L) (hs : ∀ (i : Nat) a0 a1 L, i < n → P i a0 a1 L → gg (.int (i : Int)) (((wipe σ [k0, k1]).set k0 a0).set k1 a1) L (fun σ2 L2 => tb ⟨SlV2 σ k0 k1 P (i + 1), r0, n0, SlV2 σ k0 k1 P (i + 1)⟩ σ2 L2)) (hd : ∀ a0 a1 L, P n a0 a1 L → n0 (((wipe σ [k0, k1]).set k0 a0).set k1 a1) L) : ForR (wkR 0 n) gg tb ⟨n0, r0, b0, c0⟩ σ L := by
  refine f_range0 (SlV2 σ k0 k1 P) h0 ?_ ?_
  · rintro i σ1 L hi ⟨a0, a1, rfl, hP⟩
    exact hs i a0 a1 L hi hP
  · rintro σ1 L ⟨a0, a1, rfl, hP⟩
    exact hd a0 a1 L hP
theorem frnv_2 {k0 k1 : Nat} (P : Nat → Option V → Option V → Lg → Prop) (h0 : Wk (SlV2 σ k0 k1 P 0 σ) L) (hs : ∀ (i : Nat) a0 a1 L, i < n → P i a0 a1 L → gg (.int (lo + i)) (((wipe σ [k0, k1]).set k0 a0).set k1 a1) L (fun σ2 L2 => tb ⟨SlV2 σ k0 k1 P (i + 1), r0, n0, SlV2 σ k0 k1 P (i + 1)⟩ σ2 L2)) (hd : ∀ a0 a1 L, P n a0 a1 L → n0 (((wipe σ [k0, k1]).set k0 a0).set k1 a1) L) : ForR (wkR lo n) gg tb ⟨n0, r0, b0, c0⟩ σ L := by
  refine f_range (SlV2 σ k0 k1 P) h0 ?_ ?_
  · rintro i σ1 L hi ⟨a0, a1, rfl, hP⟩
    exact hs i a0 a1 L hi hP
  · rintro σ1 L ⟨a0, a1, rfl, hP⟩
    exact hd a0 a1 L hP
theorem fiv_2 {k0 k1 : Nat} (P : Nat → Option V → Option V → Lg → Prop) (hv : IntsV xs ns) (h0 : Wk (SlV2 σ k0 k1 P 0 σ) L) (hG : ∀ i a0 a1 L, P i a0 a1 L → IsL K L p xs) (hs : ∀ (i : Nat) (x : Int) a0 a1 L, ns[i]? = some x → P i a0 a1 L → gg (.int x) (((wipe σ [k0, k1]).set k0 a0).set k1 a1) L (fun σ2 L2 => tb ⟨SlV2 σ k0 k1 P (i + 1), r0, n0, SlV2 σ k0 k1 P (i + 1)⟩ σ2 L2)) (hd : ∀ a0 a1 L, P ns.length a0 a1 L → n0 (((wipe σ [k0, k1]).set k0 a0).set k1 a1) L) : ForR (wkL K p xs) gg tb ⟨n0, r0, b0, c0⟩ σ L := by
  refine f_ints (SlV2 σ k0 k1 P) hv h0 (fun i σ1 L ⟨a0, a1, _, h⟩ => hG i a0 a1 L h) ?_ ?_
  · rintro i x σ1 L hi ⟨a0, a1, rfl, hP⟩
    exact hs i x a0 a1 L hi hP
  · rintro σ1 L ⟨a0, a1, rfl, hP⟩
    exact hd a0 a1 L hP
theorem fvv_2 {k0 k1 : Nat} (P : Nat → Option V → Option V → Lg → Prop) (h0 : Wk (SlV2 σ k0 k1 P 0 σ) L) (hG : ∀ i a0 a1 L, P i a0 a1 L → IsL K L p (as.map V.ref)) (hs : ∀ (i : Nat) a0 a1 L, i < as.length → P i a0 a1 L → gg (.ref (adrAt as (i : Int))) (((wipe σ [k0, k1]).set k0 a0).set k1 a1) L (fun σ2 L2 => tb ⟨SlV2 σ k0 k1 P (i + 1), r0, n0, SlV2 σ k0 k1 P (i + 1)⟩ σ2 L2)) (hd : ∀ a0 a1 L, P as.length a0 a1 L → n0 (((wipe σ [k0, k1]).set k0 a0).set k1 a1) L) : ForR (wkL K p (as.map V.ref)) gg tb ⟨n0, r0, b0, c0⟩ σ L := by
  refine f_refs (SlV2 σ k0 k1 P) h0 (fun i σ1 L ⟨a0, a1, _, h⟩ => hG i a0 a1 L h) ?_ ?_
  · rintro i σ1 L hi ⟨a0, a1, rfl, hP⟩
    exact hs i a0 a1 L hi hP
  · rintro σ1 L ⟨a0, a1, rfl, hP⟩
    exact hd a0 a1 L hP
theorem fpv_2 {k0 k1 : Nat} (P : Nat → Option V → Option V → Lg → Prop) (ht : TelAll c xs (ws.map VM.dP)) (h0 : Wk (SlV2 σ k0 k1 P 0 σ) L) (hG : ∀ i a0 a1 L, P i a0 a1 L → IsL K L p xs) (hs : ∀ (i : Nat) b r t a a0 a1 L, ws[i]? = some (b, r) → (t, HO.tup [.int b, .ref a]) ∈ c → (a, HO.lst (r.map V.int)) ∈ c → P i a0 a1 L → gg (.ref t) (((wipe σ [k0, k1]).set k0 a0).set k1 a1) L (fun σ2 L2 => tb ⟨SlV2 σ k0 k1 P (i + 1), r0, n0, SlV2 σ k0 k1 P (i + 1)⟩ σ2 L2)) (hd : ∀ a0 a1 L, P ws.length a0 a1 L → n0 (((wipe σ [k0, k1]).set k0 a0).set k1 a1) L) : ForR (wkL K p xs) gg tb ⟨n0, r0, b0, c0⟩ σ L := by
  refine f_pairs (SlV2 σ k0 k1 P) ht h0 (fun i σ1 L ⟨a0, a1, _, h⟩ => hG i a0 a1 L h) ?_ ?_
  · rintro i b r t a σ1 L hi m1 m2 ⟨a0, a1, rfl, hP⟩
    exact hs i b r t a a0 a1 L hi m1 m2 hP
  · rintro σ1 L ⟨a0, a1, rfl, hP⟩
    exact hd a0 a1 L hP
theorem fqv_2 {k0 k1 : Nat} (P : Nat → Option V → Option V → Lg → Prop) (ht : TelAll c xs (ts.map dT)) (h0 : Wk (SlV2 σ k0 k1 P 0 σ) L) (hG : ∀ i a0 a1 L, P i a0 a1 L → IsL K L p xs) (hs : ∀ (i : Nat) r t a0 a1 L, ts[i]? = some r → (t, HO.tup (r.map V.int)) ∈ c → P i a0 a1 L → gg (.ref t) (((wipe σ [k0, k1]).set k0 a0).set k1 a1) L (fun σ2 L2 => tb ⟨SlV2 σ k0 k1 P (i + 1), r0, n0, SlV2 σ k0 k1 P (i + 1)⟩ σ2 L2)) (hd : ∀ a0 a1 L, P ts.length a0 a1 L → n0 (((wipe σ [k0, k1]).set k0 a0).set k1 a1) L) : ForR (wkL K p xs) gg tb ⟨n0, r0, b0, c0⟩ σ L := by
  refine f_tups (SlV2 σ k0 k1 P) ht h0 (fun i σ1 L ⟨a0, a1, _, h⟩ => hG i a0 a1 L h) ?_ ?_
  · rintro i r t σ1 L hi m1 ⟨a0, a1, rfl, hP⟩
    exact hs i r t a0 a1 L hi m1 hP
  · rintro σ1 L ⟨a0, a1, rfl, hP⟩
    exact hd a0 a1 L hP
theorem fr_2 {k0 k1 : Nat} (P : Nat → Lg → Prop) (h0 : Wk (P 0) L) (hs : ∀ (i : Nat) a0 a1 L, i < n → P i L → gg (.int (i : Int)) (((wipe σ [k0, k1]).set k0 a0).set k1 a1) L (fun σ2 L2 => tb ⟨SlW σ [k0, k1] P (i + 1), r0, n0, SlW σ [k0, k1] P (i + 1)⟩ σ2 L2)) (hd : ∀ a0 a1 L, P n L → n0 (((wipe σ [k0, k1]).set k0 a0).set k1 a1) L) : ForR (wkR 0 n) gg tb ⟨n0, r0, b0, c0⟩ σ L := by
  obtain ⟨L0, l0, q0⟩ := h0
  refine f_range0 (SlW σ [k0, k1] P) ⟨L0, l0, rfl, q0⟩ ?_ ?_
  · rintro i σ1 L hi ⟨hσ, hP⟩
    obtain ⟨a0, a1, rfl⟩ := unw2 hσ
    exact hs i a0 a1 L hi hP
  · rintro σ1 L ⟨hσ, hP⟩
    obtain ⟨a0, a1, rfl⟩ := unw2 hσ
    exact hd a0 a1 L hP
theorem frn_2 {k0 k1 : Nat} (P : Nat → Lg → Prop) (h0 : Wk (P 0) L) (hs : ∀ (i : Nat) a0 a1 L, i < n → P i L → gg (.int (lo + i)) (((wipe σ [k0, k1]).set k0 a0).set k1 a1) L (fun σ2 L2 => tb ⟨SlW σ [k0, k1] P (i + 1), r0, n0, SlW σ [k0, k1] P (i + 1)⟩ σ2 L2)) (hd : ∀ a0 a1 L, P n L → n0 (((wipe σ [k0, k1]).set k0 a0).set k1 a1) L) : ForR (wkR lo n) gg tb ⟨n0, r0, b0, c0⟩ σ L := by
  obtain ⟨L0, l0, q0⟩ := h0
  refine f_range (SlW σ [k0, k1] P) ⟨L0, l0, rfl, q0⟩ ?_ ?_
  · rintro i σ1 L hi ⟨hσ, hP⟩
    obtain ⟨a0, a1, rfl⟩ := unw2 hσ
    exact hs i a0 a1 L hi hP
  · rintro σ1 L ⟨hσ, hP⟩
    obtain ⟨a0, a1, rfl⟩ := unw2 hσ
    exact hd a0 a1 L hP
theorem fi_2 {k0 k1 : Nat} (P : Nat → Lg → Prop) (hv : IntsV xs ns) (h0 : Wk (P 0) L) (hG : ∀ i L, P i L → IsL K L p xs) (hs : ∀ (i : Nat) (x : Int) a0 a1 L, ns[i]? = some x → P i L → gg (.int x) (((wipe σ [k0, k1]).set k0 a0).set k1 a1) L (fun σ2 L2 => tb ⟨SlW σ [k0, k1] P (i + 1), r0, n0, SlW σ [k0, k1] P (i + 1)⟩ σ2 L2)) (hd : ∀ a0 a1 L, P ns.length L → n0 (((wipe σ [k0, k1]).set k0 a0).set k1 a1) L) : ForR (wkL K p xs) gg tb ⟨n0, r0, b0, c0⟩ σ L := by
  obtain ⟨L0, l0, q0⟩ := h0
  refine f_ints (SlW σ [k0, k1] P) hv ⟨L0, l0, rfl, q0⟩ (fun i σ1 L h => hG i L h.2) ?_ ?_
  · rintro i x σ1 L hi ⟨hσ, hP⟩
    obtain ⟨a0, a1, rfl⟩ := unw2 hσ
    exact hs i x a0 a1 L hi hP
  · rintro σ1 L ⟨hσ, hP⟩
    obtain ⟨a0, a1, rfl⟩ := unw2 hσ
    exact hd a0 a1 L hP
theorem fv_2 {k0 k1 : Nat} (P : Nat → Lg → Prop) (h0 : Wk (P 0) L) (hG : ∀ i L, P i L → IsL K L p (as.map V.ref)) (hs : ∀ (i : Nat) a0 a1 L, i < as.length → P i L → gg (.ref (adrAt as (i : Int))) (((wipe σ [k0, k1]).set k0 a0).set k1 a1) L (fun σ2 L2 => tb ⟨SlW σ [k0, k1] P (i + 1), r0, n0, SlW σ [k0, k1] P (i + 1)⟩ σ2 L2)) (hd : ∀ a0 a1 L, P as.length L → n0 (((wipe σ [k0, k1]).set k0 a0).set k1 a1) L) : ForR (wkL K p (as.map V.ref)) gg tb ⟨n0, r0, b0, c0⟩ σ L := by
  obtain ⟨L0, l0, q0⟩ := h0
  refine f_refs (SlW σ [k0, k1] P) ⟨L0, l0, rfl, q0⟩ (fun i σ1 L h => hG i L h.2) ?_ ?_
  · rintro i σ1 L hi ⟨hσ, hP⟩
    obtain ⟨a0, a1, rfl⟩ := unw2 hσ
    exact hs i a0 a1 L hi hP
  · rintro σ1 L ⟨hσ, hP⟩
    obtain ⟨a0, a1, rfl⟩ := unw2 hσ
    exact hd a0 a1 L hP
theorem fl_2 {k0 k1 : Nat} (P : Nat → Lg → Prop) (h0 : Wk (P 0) L) (hG : ∀ i L, P i L → IsL K L p xs) (hs : ∀ (i : Nat) (x : V) a0 a1 L, xs[i]? = some x → P i L → gg x (((wipe σ [k0, k1]).set k0 a0).set k1 a1) L (fun σ2 L2 => tb ⟨SlW σ [k0, k1] P (i + 1), r0, n0, SlW σ [k0, k1] P (i + 1)⟩ σ2 L2)) (hd : ∀ a0 a1 L, P xs.length L → n0 (((wipe σ [k0, k1]).set k0 a0).set k1 a1) L) : ForR (wkL K p xs) gg tb ⟨n0, r0, b0, c0⟩ σ L := by
  obtain ⟨L0, l0, q0⟩ := h0
  refine f_list (SlW σ [k0, k1] P) ⟨L0, l0, rfl, q0⟩ (fun i σ1 L h => hG i L h.2) ?_ ?_
  · rintro i x σ1 L hi ⟨hσ, hP⟩
    obtain ⟨a0, a1, rfl⟩ := unw2 hσ
    exact hs i x a0 a1 L hi hP
  · rintro σ1 L ⟨hσ, hP⟩
    obtain ⟨a0, a1, rfl⟩ := unw2 hσ
    exact hd a0 a1 L hP
theorem ft_2 {k0 k1 : Nat} (P : Nat → Lg → Prop) (h0 : Wk (P 0) L) (hG : ∀ i L, P i L → IsT K L p xs) (hs : ∀ (i : Nat) (x : V) a0 a1 L, xs[i]? = some x → P i L → gg x (((wipe σ [k0, k1]).set k0 a0).set k1 a1) L (fun σ2 L2 => tb ⟨SlW σ [k0, k1] P (i + 1), r0, n0, SlW σ [k0, k1] P (i + 1)⟩ σ2 L2)) (hd : ∀ a0 a1 L, P xs.length L → n0 (((wipe σ [k0, k1]).set k0 a0).set k1 a1) L) : ForR (wkT K p xs) gg tb ⟨n0, r0, b0, c0⟩ σ L := by
  obtain ⟨L0, l0, q0⟩ := h0
  refine f_tup (SlW σ [k0, k1] P) ⟨L0, l0, rfl, q0⟩ (fun i σ1 L h => hG i L h.2) ?_ ?_
  · rintro i x σ1 L hi ⟨hσ, hP⟩
    obtain ⟨a0, a1, rfl⟩ := unw2 hσ
    exact hs i x a0 a1 L hi hP
  · rintro σ1 L ⟨hσ, hP⟩
    obtain ⟨a0, a1, rfl⟩ := unw2 hσ
    exact hd a0 a1 L hP
theorem fp_2 {k0 k1 : Nat} (P : Nat → Lg → Prop) (ht : TelAll c xs (ws.map VM.dP)) (h0 : Wk (P 0) L) (hG : ∀ i L, P i L → IsL K L p xs) (hs : ∀ (i : Nat) b r t a a0 a1 L, ws[i]? = some (b, r) → (t, HO.tup [.int b, .ref a]) ∈ c → (a, HO.lst (r.map V.int)) ∈ c → P i L → gg (.ref t) (((wipe σ [k0, k1]).set k0 a0).set k1 a1) L (fun σ2 L2 => tb ⟨SlW σ [k0, k1] P (i + 1), r0, n0, SlW σ [k0, k1] P (i + 1)⟩ σ2 L2)) (hd : ∀ a0 a1 L, P ws.length L → n0 (((wipe σ [k0, k1]).set k0 a0).set k1 a1) L) : ForR (wkL K p xs) gg tb ⟨n0, r0, b0, c0⟩ σ L := by
  obtain ⟨L0, l0, q0⟩ := h0
  refine f_pairs (SlW σ [k0, k1] P) ht ⟨L0, l0, rfl, q0⟩ (fun i σ1 L h => hG i L h.2) ?_ ?_
  · rintro i b r t a σ1 L hi m1 m2 ⟨hσ, hP⟩
    obtain ⟨a0, a1, rfl⟩ := unw2 hσ
    exact hs i b r t a a0 a1 L hi m1 m2 hP
  · rintro σ1 L ⟨hσ, hP⟩
    obtain ⟨a0, a1, rfl⟩ := unw2 hσ
    exact hd a0 a1 L hP
theorem fit_2 {k0 k1 : Nat} (P : Nat → Lg → Prop) (hv : IntsV xs ns) (h0 : Wk (P 0) L) (hG : ∀ i L, P i L → IsT K L p xs) (hs : ∀ (i : Nat) (x : Int) a0 a1 L, ns[i]? = some x → P i L → gg (.int x) (((wipe σ [k0, k1]).set k0 a0).set k1 a1) L (fun σ2 L2 => tb ⟨SlW σ [k0, k1] P (i + 1), r0, n0, SlW σ [k0, k1] P (i + 1)⟩ σ2 L2)) (hd : ∀ a0 a1 L, P ns.length L → n0 (((wipe σ [k0, k1]).set k0 a0).set k1 a1) L) : ForR (wkT K p xs) gg tb ⟨n0, r0, b0, c0⟩ σ L := by
  obtain ⟨L0, l0, q0⟩ := h0
  refine f_intsT (SlW σ [k0, k1] P) hv ⟨L0, l0, rfl, q0⟩ (fun i σ1 L h => hG i L h.2) ?_ ?_
  · rintro i x σ1 L hi ⟨hσ, hP⟩
    obtain ⟨a0, a1, rfl⟩ := unw2 hσ
    exact hs i x a0 a1 L hi hP
  · rintro σ1 L ⟨hσ, hP⟩
    obtain ⟨a0, a1, rfl⟩ := unw2 hσ
    exact hd a0 a1 L hP
theorem fq_2 {k0 k1 : Nat} (P : Nat → Lg → Prop) (ht : TelAll c xs (ts.map dT)) (h0 : Wk (P 0) L) (hG : ∀ i L, P i L → IsL K L p xs) (hs : ∀ (i : Nat) r t a0 a1 L, ts[i]? = some r → (t, HO.tup (r.map V.int)) ∈ c → P i L → gg (.ref t) (((wipe σ [k0, k1]).set k0 a0).set k1 a1) L (fun σ2 L2 => tb ⟨SlW σ [k0, k1] P (i + 1), r0, n0, SlW σ [k0, k1] P (i + 1)⟩ σ2 L2)) (hd : ∀ a0 a1 L, P ts.length L → n0 (((wipe σ [k0, k1]).set k0 a0).set k1 a1) L) : ForR (wkL K p xs) gg tb ⟨n0, r0, b0, c0⟩ σ L := by
  obtain ⟨L0, l0, q0⟩ := h0
  refine f_tups (SlW σ [k0, k1] P) ht ⟨L0, l0, rfl, q0⟩ (fun i σ1 L h => hG i L h.2) ?_ ?_
  · rintro i r t σ1 L hi m1 ⟨hσ, hP⟩
    obtain ⟨a0, a1, rfl⟩ := unw2 hσ
    exact hs i r t a0 a1 L hi m1 hP
  · rintro σ1 L ⟨hσ, hP⟩
    obtain ⟨a0, a1, rfl⟩ := unw2 hσ
    exact hd a0 a1 L hP
theorem unw3 {σ σ1 : St} {k0 k1 k2 : Nat} (h : wipe σ1 [k0, k1, k2] = wipe σ [k0, k1, k2]) : ∃ a0 a1 a2, σ1 = ((((wipe σ [k0, k1, k2]).set k0 a0).set k1 a1).set k2 a2) := by
  generalize wipe σ [k0, k1, k2] = τ at h ⊢
  obtain ⟨a0, h⟩ := unset h
  obtain ⟨a1, h⟩ := unset h
  obtain ⟨a2, h⟩ := unset h
  exact ⟨a0, a1, a2, h⟩
def SlV3 (σ : St) (k0 k1 k2 : Nat) (P : Nat → Option V → Option V → Option V → Lg → Prop) : Nat → St → Lg → Prop := fun i σ1 L => ∃ a0 a1 a2, σ1 = ((((wipe σ [k0, k1, k2]).set k0 a0).set k1 a1).set k2 a2) ∧ P i a0 a1 a2 L
theorem frv_3 {k0 k1 k2 : Nat} (P : Nat → Option V → Option V → Option V → Lg → Prop) (h0 : Wk (SlV3 σ k0 k1 k2 P 0 σ) L) (hs : ∀ (i : Nat) a0 a1 a2 L, i < n → P i a0 a1 a2 L → gg (.int (i : Int)) ((((wipe σ [k0, k1, k2]).set k0 a0).set k1 a1).set k2 a2) L (fun σ2 L2 => tb ⟨SlV3 σ k0 k1 k2 P (i + 1), r0, n0, SlV3 σ k0 k1 k2 P (i + 1)⟩ σ2 L2)) (hd : ∀ a0 a1 a2 L, P n a0 a1 a2 L → n0 ((((wipe σ [k0, k1, k2]).set k0 a0).set k1 a1).set k2 a2) L) : ForR (wkR 0 n) gg tb ⟨n0, r0, b0, c0⟩ σ L := by
  refine f_range0 (SlV3 σ k0 k1 k2 P) h0 ?_ ?_
  · rintro i σ1 L hi ⟨a0, a1, a2, rfl, hP⟩
    exact hs i a0 a1 a2 L hi hP
  · rintro σ1 L ⟨a0, a1, a2, rfl, hP⟩
    exact hd a0 a1 a2 L hP
theorem frnv_3 {k0 k1 k2 : Nat} (P : Nat → Option V → Option V → Option V → Lg → Prop) (h0 : Wk (SlV3 σ k0 k1 k2 P 0 σ) L) (hs : ∀ (i : Nat) a0 a1 a2 L, i < n → P i a0 a1 a2 L → gg (.int (lo + i)) ((((wipe σ [k0, k1, k2]).set k0 a0).set k1 a1).set k2 a2) L (fun σ2 L2 => tb ⟨SlV3 σ k0 k1 k2 P (i + 1), r0, n0, SlV3 σ k0 k1 k2 P (i + 1)⟩ σ2 L2)) (hd : ∀ a0 a1 a2 L, P n a0 a1 a2 L → n0 ((((wipe σ [k0, k1, k2]).set k0 a0).set k1 a1).set k2 a2) L) : ForR (wkR lo n) gg tb ⟨n0, r0, b0, c0⟩ σ L := by
  refine f_range (SlV3 σ k0 k1 k2 P) h0 ?_ ?_
  · rintro i σ1 L hi ⟨a0, a1, a2, rfl, hP⟩
    exact hs i a0 a1 a2 L hi hP
  · rintro σ1 L ⟨a0, a1, a2, rfl, hP⟩
    exact hd a0 a1 a2 L hP
theorem fiv_3 {k0 k1 k2 : Nat} (P : Nat → Option V → Option V → Option V → Lg → Prop) (hv : IntsV xs ns) (h0 : Wk (SlV3 σ k0 k1 k2 P 0 σ) L) (hG : ∀ i a0 a1 a2 L, P i a0 a1 a2 L → IsL K L p xs) (hs : ∀ (i : Nat) (x : Int) a0 a1 a2 L, ns[i]? = some x → P i a0 a1 a2 L → gg (.int x) ((((wipe σ [k0, k1, k2]).set k0 a0).set k1 a1).set k2 a2) L (fun σ2 L2 => tb ⟨SlV3 σ k0 k1 k2 P (i + 1), r0, n0, SlV3 σ k0 k1 k2 P (i + 1)⟩ σ2 L2)) (hd : ∀ a0 a1 a2 L, P ns.length a0 a1 a2 L → n0 ((((wipe σ [k0, k1, k2]).set k0 a0).set k1 a1).set k2 a2) L) : ForR (wkL K p xs) gg tb ⟨n0, r0, b0, c0⟩ σ L := by
  refine f_ints (SlV3 σ k0 k1 k2 P) hv h0 (fun i σ1 L ⟨a0, a1, a2, _, h⟩ => hG i a0 a1 a2 L h) ?_ ?_
  · rintro i x σ1 L hi ⟨a0, a1, a2, rfl, hP⟩
    exact hs i x a0 a1 a2 L hi hP
  · rintro σ1 L ⟨a0, a1, a2, rfl, hP⟩
    exact hd a0 a1 a2 L hP
theorem fvv_3 {k0 k1 k2 : Nat} (P : Nat → Option V → Option V → Option V → Lg → Prop) (h0 : Wk (SlV3 σ k0 k1 k2 P 0 σ) L) (hG : ∀ i a0 a1 a2 L, P i a0 a1 a2 L → IsL K L p (as.map V.ref)) (hs : ∀ (i : Nat) a0 a1 a2 L, i < as.length → P i a0 a1 a2 L → gg (.ref (adrAt as (i : Int))) ((((wipe σ [k0, k1, k2]).set k0 a0).set k1 a1).set k2 a2) L (fun σ2 L2 => tb ⟨SlV3 σ k0 k1 k2 P (i + 1), r0, n0, SlV3 σ k0 k1 k2 P (i + 1)⟩ σ2 L2)) (hd : ∀ a0 a1 a2 L, P as.length a0 a1 a2 L → n0 ((((wipe σ [k0, k1, k2]).set k0 a0).set k1 a1).set k2 a2) L) : ForR (wkL K p (as.map V.ref)) gg tb ⟨n0, r0, b0, c0⟩ σ L := by
  refine f_refs (SlV3 σ k0 k1 k2 P) h0 (fun i σ1 L ⟨a0, a1, a2, _, h⟩ => hG i a0 a1 a2 L h) ?_ ?_
  · rintro i σ1 L hi ⟨a0, a1, a2, rfl, hP⟩
    exact hs i a0 a1 a2 L hi hP
  · rintro σ1 L ⟨a0, a1, a2, rfl, hP⟩
    exact hd a0 a1 a2 L hP
theorem fpv_3 {k0 k1 k2 : Nat} (P : Nat → Option V → Option V → Option V → Lg → Prop) (ht : TelAll c xs (ws.map VM.dP)) (h0 : Wk (SlV3 σ k0 k1 k2 P 0 σ) L) (hG : ∀ i a0 a1 a2 L, P i a0 a1 a2 L → IsL K L p xs) (hs : ∀ (i : Nat) b r t a a0 a1 a2 L, ws[i]? = some (b, r) → (t, HO.tup [.int b, .ref a]) ∈ c → (a, HO.lst (r.map V.int)) ∈ c → P i a0 a1 a2 L → gg (.ref t) ((((wipe σ [k0, k1, k2]).set k0 a0).set k1 a1).set k2 a2) L (fun σ2 L2 => tb ⟨SlV3 σ k0 k1 k2 P (i + 1), r0, n0, SlV3 σ k0 k1 k2 P (i + 1)⟩ σ2 L2)) (hd : ∀ a0 a1 a2 L, P ws.length a0 a1 a2 L → n0 ((((wipe σ [k0, k1, k2]).set k0 a0).set k1 a1).set k2 a2) L) : ForR (wkL K p xs) gg tb ⟨n0, r0, b0, c0⟩ σ L := by
  refine f_pairs (SlV3 σ k0 k1 k2 P) ht h0 (fun i σ1 L ⟨a0, a1, a2, _, h⟩ => hG i a0 a1 a2 L h) ?_ ?_
  · rintro i b r t a σ1 L hi m1 m2 ⟨a0, a1, a2, rfl, hP⟩
    exact hs i b r t a a0 a1 a2 L hi m1 m2 hP
  · rintro σ1 L ⟨a0, a1, a2, rfl, hP⟩
    exact hd a0 a1 a2 L hP
theorem fqv_3 {k0 k1 k2 : Nat} (P : Nat → Option V → Option V → Option V → Lg → Prop) (ht : TelAll c xs (ts.map dT)) (h0 : Wk (SlV3 σ k0 k1 k2 P 0 σ) L) (hG : ∀ i a0 a1 a2 L, P i a0 a1 a2 L → IsL K L p xs) (hs : ∀ (i : Nat) r t a0 a1 a2 L, ts[i]? = some r → (t, HO.tup (r.map V.int)) ∈ c → P i a0 a1 a2 L → gg (.ref t) ((((wipe σ [k0, k1, k2]).set k0 a0).set k1 a1).set k2 a2) L (fun σ2 L2 => tb ⟨SlV3 σ k0 k1 k2 P (i + 1), r0, n0, SlV3 σ k0 k1 k2 P (i + 1)⟩ σ2 L2)) (hd : ∀ a0 a1 a2 L, P ts.length a0 a1 a2 L → n0 ((((wipe σ [k0, k1, k2]).set k0 a0).set k1 a1).set k2 a2) L) : ForR (wkL K p xs) gg tb ⟨n0, r0, b0, c0⟩ σ L := by
  refine f_tups (SlV3 σ k0 k1 k2 P) ht h0 (fun i σ1 L ⟨a0, a1, a2, _, h⟩ => hG i a0 a1 a2 L h) ?_ ?_
  · rintro i r t σ1 L hi m1 ⟨a0, a1, a2, rfl, hP⟩
    exact hs i r t a0 a1 a2 L hi m1 hP
  · rintro σ1 L ⟨a0, a1, a2, rfl, hP⟩
    exact hd a0 a1 a2 L hP
theorem fr_3 {k0 k1 k2 : Nat} (P : Nat → Lg → Prop) (h0 : Wk (P 0) L) (hs : ∀ (i : Nat) a0 a1 a2 L, i < n → P i L → gg (.int (i : Int)) ((((wipe σ [k0, k1, k2]).set k0 a0).set k1 a1).set k2 a2) L (fun σ2 L2 => tb ⟨SlW σ [k0, k1, k2] P (i + 1), r0, n0, SlW σ [k0, k1, k2] P (i + 1)⟩ σ2 L2)) (hd : ∀ a0 a1 a2 L, P n L → n0 ((((wipe σ [k0, k1, k2]).set k0 a0).set k1 a1).set k2 a2) L) : ForR (wkR 0 n) gg tb ⟨n0, r0, b0, c0⟩ σ L := by
  obtain ⟨L0, l0, q0⟩ := h0
  refine f_range0 (SlW σ [k0, k1, k2] P) ⟨L0, l0, rfl, q0⟩ ?_ ?_
  · rintro i σ1 L hi ⟨hσ, hP⟩
    obtain ⟨a0, a1, a2, rfl⟩ := unw3 hσ
    exact hs i a0 a1 a2 L hi hP
  · rintro σ1 L ⟨hσ, hP⟩
    obtain ⟨a0, a1, a2, rfl⟩ := unw3 hσ
    exact hd a0 a1 a2 L hP
theorem frn_3 {k0 k1 k2 : Nat} (P : Nat → Lg → Prop) (h0 : Wk (P 0) L) (hs : ∀ (i : Nat) a0 a1 a2 L, i < n → P i L → gg (.int (lo + i)) ((((wipe σ [k0, k1, k2]).set k0 a0).set k1 a1).set k2 a2) L (fun σ2 L2 => tb ⟨SlW σ [k0, k1, k2] P (i + 1), r0, n0, SlW σ [k0, k1, k2] P (i + 1)⟩ σ2 L2)) (hd : ∀ a0 a1 a2 L, P n L → n0 ((((wipe σ [k0, k1, k2]).set k0 a0).set k1 a1).set k2 a2) L) : ForR (wkR lo n) gg tb ⟨n0, r0, b0, c0⟩ σ L := by
  obtain ⟨L0, l0, q0⟩ := h0
  refine f_range (SlW σ [k0, k1, k2] P) ⟨L0, l0, rfl, q0⟩ ?_ ?_
  · rintro i σ1 L hi ⟨hσ, hP⟩
    obtain ⟨a0, a1, a2, rfl⟩ := unw3 hσ
    exact hs i a0 a1 a2 L hi hP
  · rintro σ1 L ⟨hσ, hP⟩
    obtain ⟨a0, a1, a2, rfl⟩ := unw3 hσ
    exact hd a0 a1 a2 L hP
theorem fi_3 {k0 k1 k2 : Nat} (P : Nat → Lg → Prop) (hv : IntsV xs ns) (h0 : Wk (P 0) L) (hG : ∀ i L, P i L → IsL K L p xs) (hs : ∀ (i : Nat) (x : Int) a0 a1 a2 L, ns[i]? = some x → P i L → gg (.int x) ((((wipe σ [k0, k1, k2]).set k0 a0).set k1 a1).set k2 a2) L (fun σ2 L2 => tb ⟨SlW σ [k0, k1, k2] P (i + 1), r0, n0, SlW σ [k0, k1, k2] P (i + 1)⟩ σ2 L2)) (hd : ∀ a0 a1 a2 L, P ns.length L → n0 ((((wipe σ [k0, k1, k2]).set k0 a0).set k1 a1).set k2 a2) L) : ForR (wkL K p xs) gg tb ⟨n0, r0, b0, c0⟩ σ L := by
  obtain ⟨L0, l0, q0⟩ := h0
  refine f_ints (SlW σ [k0, k1, k2] P) hv ⟨L0, l0, rfl, q0⟩ (fun i σ1 L h => hG i L h.2) ?_ ?_
  · rintro i x σ1 L hi ⟨hσ, hP⟩
    obtain ⟨a0, a1, a2, rfl⟩ := unw3 hσ
    exact hs i x a0 a1 a2 L hi hP
  · rintro σ1 L ⟨hσ, hP⟩
    obtain ⟨a0, a1, a2, rfl⟩ := unw3 hσ
    exact hd a0 a1 a2 L hP
theorem fv_3 {k0 k1 k2 : Nat} (P : Nat → Lg → Prop) (h0 : Wk (P 0) L) (hG : ∀ i L, P i L → IsL K L p (as.map V.ref)) (hs : ∀ (i : Nat) a0 a1 a2 L, i < as.length → P i L → gg (.ref (adrAt as (i : Int))) ((((wipe σ [k0, k1, k2]).set k0 a0).set k1 a1).set k2 a2) L (fun σ2 L2 => tb ⟨SlW σ [k0, k1, k2] P (i + 1), r0, n0, SlW σ [k0, k1, k2] P (i + 1)⟩ σ2 L2)) (hd : ∀ a0 a1 a2 L, P as.length L → n0 ((((wipe σ [k0, k1, k2]).set k0 a0).set k1 a1).set k2 a2) L) : ForR (wkL K p (as.map V.ref)) gg tb ⟨n0, r0, b0, c0⟩ σ L := by
  obtain ⟨L0, l0, q0⟩ := h0
  refine f_refs (SlW σ [k0, k1, k2] P) ⟨L0, l0, rfl, q0⟩ (fun i σ1 L h => hG i L h.2) ?_ ?_
  · rintro i σ1 L hi ⟨hσ, hP⟩
    obtain ⟨a0, a1, a2, rfl⟩ := unw3 hσ
    exact hs i a0 a1 a2 L hi hP
  · rintro σ1 L ⟨hσ, hP⟩
    obtain ⟨a0, a1, a2, rfl⟩ := unw3 hσ
    exact hd a0 a1 a2 L hP
theorem fl_3 {k0 k1 k2 : Nat} (P : Nat → Lg → Prop) (h0 : Wk (P 0) L) (hG : ∀ i L, P i L → IsL K L p xs) (hs : ∀ (i : Nat) (x : V) a0 a1 a2 L, xs[i]? = some x → P i L → gg x ((((wipe σ [k0, k1, k2]).set k0 a0).set k1 a1).set k2 a2) L (fun σ2 L2 => tb ⟨SlW σ [k0, k1, k2] P (i + 1), r0, n0, SlW σ [k0, k1, k2] P (i + 1)⟩ σ2 L2)) (hd : ∀ a0 a1 a2 L, P xs.length L → n0 ((((wipe σ [k0, k1, k2]).set k0 a0).set k1 a1).set k2 a2) L) : ForR (wkL K p xs) gg tb ⟨n0, r0, b0, c0⟩ σ L := by
  obtain ⟨L0, l0, q0⟩ := h0
  refine f_list (SlW σ [k0, k1, k2] P) ⟨L0, l0, rfl, q0⟩ (fun i σ1 L h => hG i L h.2) ?_ ?_
  · rintro i x σ1 L hi ⟨hσ, hP⟩
    obtain ⟨a0, a1, a2, rfl⟩ := unw3 hσ
    exact hs i x a0 a1 a2 L hi hP
  · rintro σ1 L ⟨hσ, hP⟩
    obtain ⟨a0, a1, a2, rfl⟩ := unw3 hσ
    exact hd a0 a1 a2 L hP
theorem ft_3 {k0 k1 k2 : Nat} (P : Nat → Lg → Prop) (h0 : Wk (P 0) L) (hG : ∀ i L, P i L → IsT K L p xs) (hs : ∀ (i : Nat) (x : V) a0 a1 a2 L, xs[i]? = some x → P i L → gg x ((((wipe σ [k0, k1, k2]).set k0 a0).set k1 a1).set k2 a2) L (fun σ2 L2 => tb ⟨SlW σ [k0, k1, k2] P (i + 1), r0, n0, SlW σ [k0, k1, k2] P (i + 1)⟩ σ2 L2)) (hd : ∀ a0 a1 a2 L, P xs.length L → n0 ((((wipe σ [k0, k1, k2]).set k0 a0).set k1 a1).set k2 a2) L) : ForR (wkT K p xs) gg tb ⟨n0, r0, b0, c0⟩ σ L := by
  obtain ⟨L0, l0, q0⟩ := h0
  refine f_tup (SlW σ [k0, k1, k2] P) ⟨L0, l0, rfl, q0⟩ (fun i σ1 L h => hG i L h.2) ?_ ?_
  · rintro i x σ1 L hi ⟨hσ, hP⟩
    obtain ⟨a0, a1, a2, rfl⟩ := unw3 hσ
    exact hs i x a0 a1 a2 L hi hP
  · rintro σ1 L ⟨hσ, hP⟩
    obtain ⟨a0, a1, a2, rfl⟩ := unw3 hσ
    exact hd a0 a1 a2 L hP
theorem fp_3 {k0 k1 k2 : Nat} (P : Nat → Lg → Prop) (ht : TelAll c xs (ws.map VM.dP)) (h0 : Wk (P 0) L) (hG : ∀ i L, P i L → IsL K L p xs) (hs : ∀ (i : Nat) b r t a a0 a1 a2 L, ws[i]? = some (b, r) → (t, HO.tup [.int b, .ref a]) ∈ c → (a, HO.lst (r.map V.int)) ∈ c → P i L → gg (.ref t) ((((wipe σ [k0, k1, k2]).set k0 a0).set k1 a1).set k2 a2) L (fun σ2 L2 => tb ⟨SlW σ [k0, k1, k2] P (i + 1), r0, n0, SlW σ [k0, k1, k2] P (i + 1)⟩ σ2 L2)) (hd : ∀ a0 a1 a2 L, P ws.length L → n0 ((((wipe σ [k0, k1, k2]).set k0 a0).set k1 a1).set k2 a2) L) : ForR (wkL K p xs) gg tb ⟨n0, r0, b0, c0⟩ σ L := by
  obtain ⟨L0, l0, q0⟩ := h0
  refine f_pairs (SlW σ [k0, k1, k2] P) ht ⟨L0, l0, rfl, q0⟩ (fun i σ1 L h => hG i L h.2) ?_ ?_
  · rintro i b r t a σ1 L hi m1 m2 ⟨hσ, hP⟩
    obtain ⟨a0, a1, a2, rfl⟩ := unw3 hσ
    exact hs i b r t a a0 a1 a2 L hi m1 m2 hP
  · rintro σ1 L ⟨hσ, hP⟩
    obtain ⟨a0, a1, a2, rfl⟩ := unw3 hσ
    exact hd a0 a1 a2 L hP
theorem fit_3 {k0 k1 k2 : Nat} (P : Nat → Lg → Prop) (hv : IntsV xs ns) (h0 : Wk (P 0) L) (hG : ∀ i L, P i L → IsT K L p xs) (hs : ∀ (i : Nat) (x : Int) a0 a1 a2 L, ns[i]? = some x → P i L → gg (.int x) ((((wipe σ [k0, k1, k2]).set k0 a0).set k1 a1).set k2 a2) L (fun σ2 L2 => tb ⟨SlW σ [k0, k1, k2] P (i + 1), r0, n0, SlW σ [k0, k1, k2] P (i + 1)⟩ σ2 L2)) (hd : ∀ a0 a1 a2 L, P ns.length L → n0 ((((wipe σ [k0, k1, k2]).set k0 a0).set k1 a1).set k2 a2) L) : ForR (wkT K p xs) gg tb ⟨n0, r0, b0, c0⟩ σ L := by
  obtain ⟨L0, l0, q0⟩ := h0
  refine f_intsT (SlW σ [k0, k1, k2] P) hv ⟨L0, l0, rfl, q0⟩ (fun i σ1 L h => hG i L h.2) ?_ ?_
  · rintro i x σ1 L hi ⟨hσ, hP⟩
    obtain ⟨a0, a1, a2, rfl⟩ := unw3 hσ
    exact hs i x a0 a1 a2 L hi hP
  · rintro σ1 L ⟨hσ, hP⟩
    obtain ⟨a0, a1, a2, rfl⟩ := unw3 hσ
    exact hd a0 a1 a2 L hP
theorem fq_3 {k0 k1 k2 : Nat} (P : Nat → Lg → Prop) (ht : TelAll c xs (ts.map dT)) (h0 : Wk (P 0) L) (hG : ∀ i L, P i L → IsL K L p xs) (hs : ∀ (i : Nat) r t a0 a1 a2 L, ts[i]? = some r → (t, HO.tup (r.map V.int)) ∈ c → P i L → gg (.ref t) ((((wipe σ [k0, k1, k2]).set k0 a0).set k1 a1).set k2 a2) L (fun σ2 L2 => tb ⟨SlW σ [k0, k1, k2] P (i + 1), r0, n0, SlW σ [k0, k1, k2] P (i + 1)⟩ σ2 L2)) (hd : ∀ a0 a1 a2 L, P ts.length L → n0 ((((wipe σ [k0, k1, k2]).set k0 a0).set k1 a1).set k2 a2) L) : ForR (wkL K p xs) gg tb ⟨n0, r0, b0, c0⟩ σ L := by
  obtain ⟨L0, l0, q0⟩ := h0
  refine f_tups (SlW σ [k0, k1, k2] P) ht ⟨L0, l0, rfl, q0⟩ (fun i σ1 L h => hG i L h.2) ?_ ?_
  · rintro i r t σ1 L hi m1 ⟨hσ, hP⟩
    obtain ⟨a0, a1, a2, rfl⟩ := unw3 hσ
    exact hs i r t a0 a1 a2 L hi m1 hP
  · rintro σ1 L ⟨hσ, hP⟩
    obtain ⟨a0, a1, a2, rfl⟩ := unw3 hσ
    exact hd a0 a1 a2 L hP
theorem unw4 {σ σ1 : St} {k0 k1 k2 k3 : Nat} (h : wipe σ1 [k0, k1, k2, k3] = wipe σ [k0, k1, k2, k3]) : ∃ a0 a1 a2 a3, σ1 = (((((wipe σ [k0, k1, k2, k3]).set k0 a0).set k1 a1).set k2 a2).set k3 a3) := by
  generalize wipe σ [k0, k1, k2, k3] = τ at h ⊢
  obtain ⟨a0, h⟩ := unset h
  obtain ⟨a1, h⟩ := unset h
  obtain ⟨a2, h⟩ := unset h
  obtain ⟨a3, h⟩ := unset h
  exact ⟨a0, a1, a2, a3, h⟩
def SlV4 (σ : St) (k0 k1 k2 k3 : Nat) (P : Nat → Option V → Option V → Option V → Option V → Lg → Prop) : Nat → St → Lg → Prop := fun i σ1 L => ∃ a0 a1 a2 a3, σ1 = (((((wipe σ [k0, k1, k2, k3]).set k0 a0).set k1 a1).set k2 a2).set k3 a3) ∧ P i a0 a1 a2 a3 L
theorem frv_4 {k0 k1 k2 k3 : Nat} (P : Nat → Option V → Option V → Option V → Option V → Lg → Prop) (h0 : Wk (SlV4 σ k0 k1 k2 k3 P 0 σ) L) (hs : ∀ (i : Nat) a0 a1 a2 a3 L, i < n → P i a0 a1 a2 a3 L → gg (.int (i : Int)) (((((wipe σ [k0, k1, k2, k3]).set k0 a0).set k1 a1).set k2 a2).set k3 a3) L (fun σ2 L2 => tb ⟨SlV4 σ k0 k1 k2 k3 P (i + 1), r0, n0, SlV4 σ k0 k1 k2 k3 P (i + 1)⟩ σ2 L2)) (hd : ∀ a0 a1 a2 a3 L, P n a0 a1 a2 a3 L → n0 (((((wipe σ [k0, k1, k2, k3]).set k0 a0).set k1 a1).set k2 a2).set k3 a3) L) : ForR (wkR 0 n) gg tb ⟨n0, r0, b0, c0⟩ σ L := by
  refine f_range0 (SlV4 σ k0 k1 k2 k3 P) h0 ?_ ?_
  · rintro i σ1 L hi ⟨a0, a1, a2, a3, rfl, hP⟩
    exact hs i a0 a1 a2 a3 L hi hP
  · rintro σ1 L ⟨a0, a1, a2, a3, rfl, hP⟩
    exact hd a0 a1 a2 a3 L hP
theorem frnv_4 {k0 k1 k2 k3 : Nat} (P : Nat → Option V → Option V → Option V → Option V → Lg → Prop) (h0 : Wk (SlV4 σ k0 k1 k2 k3 P 0 σ) L) (hs : ∀ (i : Nat) a0 a1 a2 a3 L, i < n → P i a0 a1 a2 a3 L → gg (.int (lo + i)) (((((wipe σ [k0, k1, k2, k3]).set k0 a0).set k1 a1).set k2 a2).set k3 a3) L (fun σ2 L2 => tb ⟨SlV4 σ k0 k1 k2 k3 P (i + 1), r0, n0, SlV4 σ k0 k1 k2 k3 P (i + 1)⟩ σ2 L2)) (hd : ∀ a0 a1 a2 a3 L, P n a0 a1 a2 a3 L → n0 (((((wipe σ [k0, k1, k2, k3]).set k0 a0).set k1 a1).set k2 a2).set k3 a3) L) : ForR (wkR lo n) gg tb ⟨n0, r0, b0, c0⟩ σ L := by
  refine f_range (SlV4 σ k0 k1 k2 k3 P) h0 ?_ ?_
  · rintro i σ1 L hi ⟨a0, a1, a2, a3, rfl, hP⟩
    exact hs i a0 a1 a2 a3 L hi hP
  · rintro σ1 L ⟨a0, a1, a2, a3, rfl, hP⟩
    exact hd a0 a1 a2 a3 L hP
theorem fiv_4 {k0 k1 k2 k3 : Nat} (P : Nat → Option V → Option V → Option V → Option V → Lg → Prop) (hv : IntsV xs ns) (h0 : Wk (SlV4 σ k0 k1 k2 k3 P 0 σ) L) (hG : ∀ i a0 a1 a2 a3 L, P i a0 a1 a2 a3 L → IsL K L p xs) (hs : ∀ (i : Nat) (x : Int) a0 a1 a2 a3 L, ns[i]? = some x → P i a0 a1 a2 a3 L → gg (.int x) (((((wipe σ [k0, k1, k2, k3]).set k0 a0).set k1 a1).set k2 a2).set k3 a3) L (fun σ2 L2 => tb ⟨SlV4 σ k0 k1 k2 k3 P (i + 1), r0, n0, SlV4 σ k0 k1 k2 k3 P (i + 1)⟩ σ2 L2)) (hd : ∀ a0 a1 a2 a3 L, P ns.length a0 a1 a2 a3 L → n0 (((((wipe σ [k0, k1, k2, k3]).set k0 a0).set k1 a1).set k2 a2).set k3 a3) L) : ForR (wkL K p xs) gg tb ⟨n0, r0, b0, c0⟩ σ L := by
  refine f_ints (SlV4 σ k0 k1 k2 k3 P) hv h0 (fun i σ1 L ⟨a0, a1, a2, a3, _, h⟩ => hG i a0 a1 a2 a3 L h) ?_ ?_
  · rintro i x σ1 L hi ⟨a0, a1, a2, a3, rfl, hP⟩
    exact hs i x a0 a1 a2 a3 L hi hP
  · rintro σ1 L ⟨a0, a1, a2, a3, rfl, hP⟩
    exact hd a0 a1 a2 a3 L hP
theorem fvv_4 {k0 k1 k2 k3 : Nat} (P : Nat → Option V → Option V → Option V → Option V → Lg → Prop) (h0 : Wk (SlV4 σ k0 k1 k2 k3 P 0 σ) L) (hG : ∀ i a0 a1 a2 a3 L, P i a0 a1 a2 a3 L → IsL K L p (as.map V.ref)) (hs : ∀ (i : Nat) a0 a1 a2 a3 L, i < as.length → P i a0 a1 a2 a3 L → gg (.ref (adrAt as (i : Int))) (((((wipe σ [k0, k1, k2, k3]).set k0 a0).set k1 a1).set k2 a2).set k3 a3) L (fun σ2 L2 => tb ⟨SlV4 σ k0 k1 k2 k3 P (i + 1), r0, n0, SlV4 σ k0 k1 k2 k3 P (i + 1)⟩ σ2 L2)) (hd : ∀ a0 a1 a2 a3 L, P as.length a0 a1 a2 a3 L → n0 (((((wipe σ [k0, k1, k2, k3]).set k0 a0).set k1 a1).set k2 a2).set k3 a3) L) : ForR (wkL K p (as.map V.ref)) gg tb ⟨n0, r0, b0, c0⟩ σ L := by
  refine f_refs (SlV4 σ k0 k1 k2 k3 P) h0 (fun i σ1 L ⟨a0, a1, a2, a3, _, h⟩ => hG i a0 a1 a2 a3 L h) ?_ ?_
  · rintro i σ1 L hi ⟨a0, a1, a2, a3, rfl, hP⟩
    exact hs i a0 a1 a2 a3 L hi hP
  · rintro σ1 L ⟨a0, a1, a2, a3, rfl, hP⟩
    exact hd a0 a1 a2 a3 L hP
theorem fpv_4 {k0 k1 k2 k3 : Nat} (P : Nat → Option V → Option V → Option V → Option V → Lg → Prop) (ht : TelAll c xs (ws.map VM.dP)) (h0 : Wk (SlV4 σ k0 k1 k2 k3 P 0 σ) L) (hG : ∀ i a0 a1 a2 a3 L, P i a0 a1 a2 a3 L → IsL K L p xs) (hs : ∀ (i : Nat) b r t a a0 a1 a2 a3 L, ws[i]? = some (b, r) → (t, HO.tup [.int b, .ref a]) ∈ c → (a, HO.lst (r.map V.int)) ∈ c → P i a0 a1 a2 a3 L → gg (.ref t) (((((wipe σ [k0, k1, k2, k3]).set k0 a0).set k1 a1).set k2 a2).set k3 a3) L (fun σ2 L2 => tb ⟨SlV4 σ k0 k1 k2 k3 P (i + 1), r0, n0, SlV4 σ k0 k1 k2 k3 P (i + 1)⟩ σ2 L2)) (hd : ∀ a0 a1 a2 a3 L, P ws.length a0 a1 a2 a3 L → n0 (((((wipe σ [k0, k1, k2, k3]).set k0 a0).set k1 a1).set k2 a2).set k3 a3) L) : ForR (wkL K p xs) gg tb ⟨n0, r0, b0, c0⟩ σ L := by
  refine f_pairs (SlV4 σ k0 k1 k2 k3 P) ht h0 (fun i σ1 L ⟨a0, a1, a2, a3, _, h⟩ => hG i a0 a1 a2 a3 L h) ?_ ?_
  · rintro i b r t a σ1 L hi m1 m2 ⟨a0, a1, a2, a3, rfl, hP⟩
    exact hs i b r t a a0 a1 a2 a3 L hi m1 m2 hP
  · rintro σ1 L ⟨a0, a1, a2, a3, rfl, hP⟩
    exact hd a0 a1 a2 a3 L hP
theorem fqv_4 {k0 k1 k2 k3 : Nat} (P : Nat → Option V → Option V → Option V → Option V → Lg → Prop) (ht : TelAll c xs (ts.map dT)) (h0 : Wk (SlV4 σ k0 k1 k2 k3 P 0 σ) L) (hG : ∀ i a0 a1 a2 a3 L, P i a0 a1 a2 a3 L → IsL K L p xs) (hs : ∀ (i : Nat) r t a0 a1 a2 a3 L, ts[i]? = some r → (t, HO.tup (r.map V.int)) ∈ c → P i a0 a1 a2 a3 L → gg (.ref t) (((((wipe σ [k0, k1, k2, k3]).set k0 a0).set k1 a1).set k2 a2).set k3 a3) L (fun σ2 L2 => tb ⟨SlV4 σ k0 k1 k2 k3 P (i + 1), r0, n0, SlV4 σ k0 k1 k2 k3 P (i + 1)⟩ σ2 L2)) (hd : ∀ a0 a1 a2 a3 L, P ts.length a0 a1 a2 a3 L → n0 (((((wipe σ [k0, k1, k2, k3]).set k0 a0).set k1 a1).set k2 a2).set k3 a3) L) : ForR (wkL K p xs) gg tb ⟨n0, r0, b0, c0⟩ σ L := by
  refine f_tups (SlV4 σ k0 k1 k2 k3 P) ht h0 (fun i σ1 L ⟨a0, a1, a2, a3, _, h⟩ => hG i a0 a1 a2 a3 L h) ?_ ?_
  · rintro i r t σ1 L hi m1 ⟨a0, a1, a2, a3, rfl, hP⟩
    exact hs i r t a0 a1 a2 a3 L hi m1 hP
  · rintro σ1 L ⟨a0, a1, a2, a3, rfl, hP⟩
    exact hd a0 a1 a2 a3 L hP
theorem fr_4 {k0 k1 k2 k3 : Nat} (P : Nat → Lg → Prop) (h0 : Wk (P 0) L) (hs : ∀ (i : Nat) a0 a1 a2 a3 L, i < n → P i L → gg (.int (i : Int)) (((((wipe σ [k0, k1, k2, k3]).set k0 a0).set k1 a1).set k2 a2).set k3 a3) L (fun σ2 L2 => tb ⟨SlW σ [k0, k1, k2, k3] P (i + 1), r0, n0, SlW σ [k0, k1, k2, k3] P (i + 1)⟩ σ2 L2)) (hd : ∀ a0 a1 a2 a3 L, P n L → n0 (((((wipe σ [k0, k1, k2, k3]).set k0 a0).set k1 a1).set k2 a2).set k3 a3) L) : ForR (wkR 0 n) gg tb ⟨n0, r0, b0, c0⟩ σ L := by
  obtain ⟨L0, l0, q0⟩ := h0
  refine f_range0 (SlW σ [k0, k1, k2, k3] P) ⟨L0, l0, rfl, q0⟩ ?_ ?_
  · rintro i σ1 L hi ⟨hσ, hP⟩
    obtain ⟨a0, a1, a2, a3, rfl⟩ := unw4 hσ
    exact hs i a0 a1 a2 a3 L hi hP
  · rintro σ1 L ⟨hσ, hP⟩
    obtain ⟨a0, a1, a2, a3, rfl⟩ := unw4 hσ
    exact hd a0 a1 a2 a3 L hP
theorem frn_4 {k0 k1 k2 k3 : Nat} (P : Nat → Lg → Prop) (h0 : Wk (P 0) L) (hs : ∀ (i : Nat) a0 a1 a2 a3 L, i < n → P i L → gg (.int (lo + i)) (((((wipe σ [k0, k1, k2, k3]).set k0 a0).set k1 a1).set k2 a2).set k3 a3) L (fun σ2 L2 => tb ⟨SlW σ [k0, k1, k2, k3] P (i + 1), r0, n0, SlW σ [k0, k1, k2, k3] P (i + 1)⟩ σ2 L2)) (hd : ∀ a0 a1 a2 a3 L, P n L → n0 (((((wipe σ [k0, k1, k2, k3]).set k0 a0).set k1 a1).set k2 a2).set k3 a3) L) : ForR (wkR lo n) gg tb ⟨n0, r0, b0, c0⟩ σ L := by
  obtain ⟨L0, l0, q0⟩ := h0
  refine f_range (SlW σ [k0, k1, k2, k3] P) ⟨L0, l0, rfl, q0⟩ ?_ ?_
  · rintro i σ1 L hi ⟨hσ, hP⟩
    obtain ⟨a0, a1, a2, a3, rfl⟩ := unw4 hσ
    exact hs i a0 a1 a2 a3 L hi hP
  · rintro σ1 L ⟨hσ, hP⟩
    obtain ⟨a0, a1, a2, a3, rfl⟩ := unw4 hσ
    exact hd a0 a1 a2 a3 L hP
theorem fi_4 {k0 k1 k2 k3 : Nat} (P : Nat → Lg → Prop) (hv : IntsV xs ns) (h0 : Wk (P 0) L) (hG : ∀ i L, P i L → IsL K L p xs) (hs : ∀ (i : Nat) (x : Int) a0 a1 a2 a3 L, ns[i]? = some x → P i L → gg (.int x) (((((wipe σ [k0, k1, k2, k3]).set k0 a0).set k1 a1).set k2 a2).set k3 a3) L (fun σ2 L2 => tb ⟨SlW σ [k0, k1, k2, k3] P (i + 1), r0, n0, SlW σ [k0, k1, k2, k3] P (i + 1)⟩ σ2 L2)) (hd : ∀ a0 a1 a2 a3 L, P ns.length L → n0 (((((wipe σ [k0, k1, k2, k3]).set k0 a0).set k1 a1).set k2 a2).set k3 a3) L) : ForR (wkL K p xs) gg tb ⟨n0, r0, b0, c0⟩ σ L := by
  obtain ⟨L0, l0, q0⟩ := h0
  refine f_ints (SlW σ [k0, k1, k2, k3] P) hv ⟨L0, l0, rfl, q0⟩ (fun i σ1 L h => hG i L h.2) ?_ ?_
  · rintro i x σ1 L hi ⟨hσ, hP⟩
    obtain ⟨a0, a1, a2, a3, rfl⟩ := unw4 hσ
    exact hs i x a0 a1 a2 a3 L hi hP
  · rintro σ1 L ⟨hσ, hP⟩
    obtain ⟨a0, a1, a2, a3, rfl⟩ := unw4 hσ
    exact hd a0 a1 a2 a3 L hP
theorem fv_4 {k0 k1 k2 k3 : Nat} (P : Nat → Lg → Prop) (h0 : Wk (P 0) L) (hG : ∀ i L, P i L → IsL K L p (as.map V.ref)) (hs : ∀ (i : Nat) a0 a1 a2 a3 L, i < as.length → P i L → gg (.ref (adrAt as (i : Int))) (((((wipe σ [k0, k1, k2, k3]).set k0 a0).set k1 a1).set k2 a2).set k3 a3) L (fun σ2 L2 => tb ⟨SlW σ [k0, k1, k2, k3] P (i + 1), r0, n0, SlW σ [k0, k1, k2, k3] P (i + 1)⟩ σ2 L2)) (hd : ∀ a0 a1 a2 a3 L, P as.length L → n0 (((((wipe σ [k0, k1, k2, k3]).set k0 a0).set k1 a1).set k2 a2).set k3 a3) L) : ForR (wkL K p (as.map V.ref)) gg tb ⟨n0, r0, b0, c0⟩ σ L := by
  obtain ⟨L0, l0, q0⟩ := h0
  refine f_refs (SlW σ [k0, k1, k2, k3] P) ⟨L0, l0, rfl, q0⟩ (fun i σ1 L h => hG i L h.2) ?_ ?_
  · rintro i σ1 L hi ⟨hσ, hP⟩
    obtain ⟨a0, a1, a2, a3, rfl⟩ := unw4 hσ
    exact hs i a0 a1 a2 a3 L hi hP
  · rintro σ1 L ⟨hσ, hP⟩
    obtain ⟨a0, a1, a2, a3, rfl⟩ := unw4 hσ
    exact hd a0 a1 a2 a3 L hP
theorem fl_4 {k0 k1 k2 k3 : Nat} (P : Nat → Lg → Prop) (h0 : Wk (P 0) L) (hG : ∀ i L, P i L → IsL K L p xs) (hs : ∀ (i : Nat) (x : V) a0 a1 a2 a3 L, xs[i]? = some x → P i L → gg x (((((wipe σ [k0, k1, k2, k3]).set k0 a0).set k1 a1).set k2 a2).set k3 a3) L (fun σ2 L2 => tb ⟨SlW σ [k0, k1, k2, k3] P (i + 1), r0, n0, SlW σ [k0, k1, k2, k3] P (i + 1)⟩ σ2 L2)) (hd : ∀ a0 a1 a2 a3 L, P xs.length L → n0 (((((wipe σ [k0, k1, k2, k3]).set k0 a0).set k1 a1).set k2 a2).set k3 a3) L) : ForR (wkL K p xs) gg tb ⟨n0, r0, b0, c0⟩ σ L := by
  obtain ⟨L0, l0, q0⟩ := h0
  refine f_list (SlW σ [k0, k1, k2, k3] P) ⟨L0, l0, rfl, q0⟩ (fun i σ1 L h => hG i L h.2) ?_ ?_
  · rintro i x σ1 L hi ⟨hσ, hP⟩
    obtain ⟨a0, a1, a2, a3, rfl⟩ := unw4 hσ
    exact hs i x a0 a1 a2 a3 L hi hP
  · rintro σ1 L ⟨hσ, hP⟩
    obtain ⟨a0, a1, a2, a3, rfl⟩ := unw4 hσ
    exact hd a0 a1 a2 a3 L hP
theorem ft_4 {k0 k1 k2 k3 : Nat} (P : Nat → Lg → Prop) (h0 : Wk (P 0) L) (hG : ∀ i L, P i L → IsT K L p xs) (hs : ∀ (i : Nat) (x : V) a0 a1 a2 a3 L, xs[i]? = some x → P i L → gg x (((((wipe σ [k0, k1, k2, k3]).set k0 a0).set k1 a1).set k2 a2).set k3 a3) L (fun σ2 L2 => tb ⟨SlW σ [k0, k1, k2, k3] P (i + 1), r0, n0, SlW σ [k0, k1, k2, k3] P (i + 1)⟩ σ2 L2)) (hd : ∀ a0 a1 a2 a3 L, P xs.length L → n0 (((((wipe σ [k0, k1, k2, k3]).set k0 a0).set k1 a1).set k2 a2).set k3 a3) L) : ForR (wkT K p xs) gg tb ⟨n0, r0, b0, c0⟩ σ L := by
  obtain ⟨L0, l0, q0⟩ := h0
  refine f_tup (SlW σ [k0, k1, k2, k3] P) ⟨L0, l0, rfl, q0⟩ (fun i σ1 L h => hG i L h.2) ?_ ?_
  · rintro i x σ1 L hi ⟨hσ, hP⟩
    obtain ⟨a0, a1, a2, a3, rfl⟩ := unw4 hσ
    exact hs i x a0 a1 a2 a3 L hi hP
  · rintro σ1 L ⟨hσ, hP⟩
    obtain ⟨a0, a1, a2, a3, rfl⟩ := unw4 hσ
    exact hd a0 a1 a2 a3 L hP
theorem fp_4 {k0 k1 k2 k3 : Nat} (P : Nat → Lg → Prop) (ht : TelAll c xs (ws.map VM.dP)) (h0 : Wk (P 0) L) (hG : ∀ i L, P i L → IsL K L p xs) (hs : ∀ (i : Nat) b r t a a0 a1 a2 a3 L, ws[i]? = some (b, r) → (t, HO.tup [.int b, .ref a]) ∈ c → (a, HO.lst (r.map V.int)) ∈ c → P i L → gg (.ref t) (((((wipe σ [k0, k1, k2, k3]).set k0 a0).set k1 a1).set k2 a2).set k3 a3) L (fun σ2 L2 => tb ⟨SlW σ [k0, k1, k2, k3] P (i + 1), r0, n0, SlW σ [k0, k1, k2, k3] P (i + 1)⟩ σ2 L2)) (hd : ∀ a0 a1 a2 a3 L, P ws.length L → n0 (((((wipe σ [k0, k1, k2, k3]).set k0 a0).set k1 a1).set k2 a2).set k3 a3) L) : ForR (wkL K p xs) gg tb ⟨n0, r0, b0, c0⟩ σ L := by
  obtain ⟨L0, l0, q0⟩ := h0
  refine f_pairs (SlW σ [k0, k1, k2, k3] P) ht ⟨L0, l0, rfl, q0⟩ (fun i σ1 L h => hG i L h.2) ?_ ?_
  · rintro i b r t a σ1 L hi m1 m2 ⟨hσ, hP⟩
    obtain ⟨a0, a1, a2, a3, rfl⟩ := unw4 hσ
    exact hs i b r t a a0 a1 a2 a3 L hi m1 m2 hP
  · rintro σ1 L ⟨hσ, hP⟩
    obtain ⟨a0, a1, a2, a3, rfl⟩ := unw4 hσ
    exact hd a0 a1 a2 a3 L hP
theorem fit_4 {k0 k1 k2 k3 : Nat} (P : Nat → Lg → Prop) (hv : IntsV xs ns) (h0 : Wk (P 0) L) (hG : ∀ i L, P i L → IsT K L p xs) (hs : ∀ (i : Nat) (x : Int) a0 a1 a2 a3 L, ns[i]? = some x → P i L → gg (.int x) (((((wipe σ [k0, k1, k2, k3]).set k0 a0).set k1 a1).set k2 a2).set k3 a3) L (fun σ2 L2 => tb ⟨SlW σ [k0, k1, k2, k3] P (i + 1), r0, n0, SlW σ [k0, k1, k2, k3] P (i + 1)⟩ σ2 L2)) (hd : ∀ a0 a1 a2 a3 L, P ns.length L → n0 (((((wipe σ [k0, k1, k2, k3]).set k0 a0).set k1 a1).set k2 a2).set k3 a3) L) : ForR (wkT K p xs) gg tb ⟨n0, r0, b0, c0⟩ σ L := by
  obtain ⟨L0, l0, q0⟩ := h0
  refine f_intsT (SlW σ [k0, k1, k2, k3] P) hv ⟨L0, l0, rfl, q0⟩ (fun i σ1 L h => hG i L h.2) ?_ ?_
  · rintro i x σ1 L hi ⟨hσ, hP⟩
    obtain ⟨a0, a1, a2, a3, rfl⟩ := unw4 hσ
    exact hs i x a0 a1 a2 a3 L hi hP
  · rintro σ1 L ⟨hσ, hP⟩
    obtain ⟨a0, a1, a2, a3, rfl⟩ := unw4 hσ
    exact hd a0 a1 a2 a3 L hP
theorem fq_4 {k0 k1 k2 k3 : Nat} (P : Nat → Lg → Prop) (ht : TelAll c xs (ts.map dT)) (h0 : Wk (P 0) L) (hG : ∀ i L, P i L → IsL K L p xs) (hs : ∀ (i : Nat) r t a0 a1 a2 a3 L, ts[i]? = some r → (t, HO.tup (r.map V.int)) ∈ c → P i L → gg (.ref t) (((((wipe σ [k0, k1, k2, k3]).set k0 a0).set k1 a1).set k2 a2).set k3 a3) L (fun σ2 L2 => tb ⟨SlW σ [k0, k1, k2, k3] P (i + 1), r0, n0, SlW σ [k0, k1, k2, k3] P (i + 1)⟩ σ2 L2)) (hd : ∀ a0 a1 a2 a3 L, P ts.length L → n0 (((((wipe σ [k0, k1, k2, k3]).set k0 a0).set k1 a1).set k2 a2).set k3 a3) L) : ForR (wkL K p xs) gg tb ⟨n0, r0, b0, c0⟩ σ L := by
  obtain ⟨L0, l0, q0⟩ := h0
  refine f_tups (SlW σ [k0, k1, k2, k3] P) ht ⟨L0, l0, rfl, q0⟩ (fun i σ1 L h => hG i L h.2) ?_ ?_
  · rintro i r t σ1 L hi m1 ⟨hσ, hP⟩
    obtain ⟨a0, a1, a2, a3, rfl⟩ := unw4 hσ
    exact hs i r t a0 a1 a2 a3 L hi m1 hP
  · rintro σ1 L ⟨hσ, hP⟩
    obtain ⟨a0, a1, a2, a3, rfl⟩ := unw4 hσ
    exact hd a0 a1 a2 a3 L hP
theorem unw5 {σ σ1 : St} {k0 k1 k2 k3 k4 : Nat} (h : wipe σ1 [k0, k1, k2, k3, k4] = wipe σ [k0, k1, k2, k3, k4]) : ∃ a0 a1 a2 a3 a4, σ1 = ((((((wipe σ [k0, k1, k2, k3, k4]).set k0 a0).set k1 a1).set k2 a2).set k3 a3).set k4 a4) := by
  generalize wipe σ [k0, k1, k2, k3, k4] = τ at h ⊢
  obtain ⟨a0, h⟩ := unset h
  obtain ⟨a1, h⟩ := unset h
  obtain ⟨a2, h⟩ := unset h
  obtain ⟨a3, h⟩ := unset h
  obtain ⟨a4, h⟩ := unset h
  exact ⟨a0, a1, a2, a3, a4, h⟩
def SlV5 (σ : St) (k0 k1 k2 k3 k4 : Nat) (P : Nat → Option V → Option V → Option V → Option V → Option V → Lg → Prop) : Nat → St → Lg → Prop := fun i σ1 L => ∃ a0 a1 a2 a3 a4, σ1 = ((((((wipe σ [k0, k1, k2, k3, k4]).set k0 a0).set k1 a1).set k2 a2).set k3 a3).set k4 a4) ∧ P i a0 a1 a2 a3 a4 L
theorem frv_5 {k0 k1 k2 k3 k4 : Nat} (P : Nat → Option V → Option V → Option V → Option V → Option V → Lg → Prop) (h0 : Wk (SlV5 σ k0 k1 k2 k3 k4 P 0 σ) L) (hs : ∀ (i : Nat) a0 a1 a2 a3 a4 L, i < n → P i a0 a1 a2 a3 a4 L → gg (.int (i : Int)) ((((((wipe σ [k0, k1, k2, k3, k4]).set k0 a0).set k1 a1).set k2 a2).set k3 a3).set k4 a4) L (fun σ2 L2 => tb ⟨SlV5 σ k0 k1 k2 k3 k4 P (i + 1), r0, n0, SlV5 σ k0 k1 k2 k3 k4 P (i + 1)⟩ σ2 L2)) (hd : ∀ a0 a1 a2 a3 a4 L, P n a0 a1 a2 a3 a4 L → n0 ((((((wipe σ [k0, k1, k2, k3, k4]).set k0 a0).set k1 a1).set k2 a2).set k3 a3).set k4 a4) L) : ForR (wkR 0 n) gg tb ⟨n0, r0, b0, c0⟩ σ L := by
  refine f_range0 (SlV5 σ k0 k1 k2 k3 k4 P) h0 ?_ ?_
  · rintro i σ1 L hi ⟨a0, a1, a2, a3, a4, rfl, hP⟩
    exact hs i a0 a1 a2 a3 a4 L hi hP
  · rintro σ1 L ⟨a0, a1, a2, a3, a4, rfl, hP⟩
    exact hd a0 a1 a2 a3 a4 L hP
theorem frnv_5 {k0 k1 k2 k3 k4 : Nat} (P : Nat → Option V → Option V → Option V → Option V → Option V → Lg → Prop) (h0 : Wk (SlV5 σ k0 k1 k2 k3 k4 P 0 σ) L) (hs : ∀ (i : Nat) a0 a1 a2 a3 a4 L, i < n → P i a0 a1 a2 a3 a4 L → gg (.int (lo + i)) ((((((wipe σ [k0, k1, k2, k3, k4]).set k0 a0).set k1 a1).set k2 a2).set k3 a3).set k4 a4) L (fun σ2 L2 => tb ⟨SlV5 σ k0 k1 k2 k3 k4 P (i + 1), r0, n0, SlV5 σ k0 k1 k2 k3 k4 P (i + 1)⟩ σ2 L2)) (hd : ∀ a0 a1 a2 a3 a4 L, P n a0 a1 a2 a3 a4 L → n0 ((((((wipe σ [k0, k1, k2, k3, k4]).set k0 a0).set k1 a1).set k2 a2).set k3 a3).set k4 a4) L) : ForR (wkR lo n) gg tb ⟨n0, r0, b0, c0⟩ σ L := by
  refine f_range (SlV5 σ k0 k1 k2 k3 k4 P) h0 ?_ ?_
  · rintro i σ1 L hi ⟨a0, a1, a2, a3, a4, rfl, hP⟩
    exact hs i a0 a1 a2 a3 a4 L hi hP
  · rintro σ1 L ⟨a0, a1, a2, a3, a4, rfl, hP⟩
    exact hd a0 a1 a2 a3 a4 L hP
theorem fiv_5 {k0 k1 k2 k3 k4 : Nat} (P : Nat → Option V → Option V → Option V → Option V → Option V → Lg → Prop) (hv : IntsV xs ns) (h0 : Wk (SlV5 σ k0 k1 k2 k3 k4 P 0 σ) L) (hG : ∀ i a0 a1 a2 a3 a4 L, P i a0 a1 a2 a3 a4 L → IsL K L p xs) (hs : ∀ (i : Nat) (x : Int) a0 a1 a2 a3 a4 L, ns[i]? = some x → P i a0 a1 a2 a3 a4 L → gg (.int x) ((((((wipe σ [k0, k1, k2, k3, k4]).set k0 a0).set k1 a1).set k2 a2).set k3 a3).set k4 a4) L (fun σ2 L2 => tb ⟨SlV5 σ k0 k1 k2 k3 k4 P (i + 1), r0, n0, SlV5 σ k0 k1 k2 k3 k4 P (i + 1)⟩ σ2 L2)) (hd : ∀ a0 a1 a2 a3 a4 L, P ns.length a0 a1 a2 a3 a4 L → n0 ((((((wipe σ [k0, k1, k2, k3, k4]).set k0 a0).set k1 a1).set k2 a2).set k3 a3).set k4 a4) L) : ForR (wkL K p xs) gg tb ⟨n0, r0, b0, c0⟩ σ L := by
  refine f_ints (SlV5 σ k0 k1 k2 k3 k4 P) hv h0 (fun i σ1 L ⟨a0, a1, a2, a3, a4, _, h⟩ => hG i a0 a1 a2 a3 a4 L h) ?_ ?_
  · rintro i x σ1 L hi ⟨a0, a1, a2, a3, a4, rfl, hP⟩
    exact hs i x a0 a1 a2 a3 a4 L hi hP
  · rintro σ1 L ⟨a0, a1, a2, a3, a4, rfl, hP⟩
    exact hd a0 a1 a2 a3 a4 L hP
theorem fvv_5 {k0 k1 k2 k3 k4 : Nat} (P : Nat → Option V → Option V → Option V → Option V → Option V → Lg → Prop) (h0 : Wk (SlV5 σ k0 k1 k2 k3 k4 P 0 σ) L) (hG : ∀ i a0 a1 a2 a3 a4 L, P i a0 a1 a2 a3 a4 L → IsL K L p (as.map V.ref)) (hs : ∀ (i : Nat) a0 a1 a2 a3 a4 L, i < as.length → P i a0 a1 a2 a3 a4 L → gg (.ref (adrAt as (i : Int))) ((((((wipe σ [k0, k1, k2, k3, k4]).set k0 a0).set k1 a1).set k2 a2).set k3 a3).set k4 a4) L (fun σ2 L2 => tb ⟨SlV5 σ k0 k1 k2 k3 k4 P (i + 1), r0, n0, SlV5 σ k0 k1 k2 k3 k4 P (i + 1)⟩ σ2 L2)) (hd : ∀ a0 a1 a2 a3 a4 L, P as.length a0 a1 a2 a3 a4 L → n0 ((((((wipe σ [k0, k1, k2, k3, k4]).set k0 a0).set k1 a1).set k2 a2).set k3 a3).set k4 a4) L) : ForR (wkL K p (as.map V.ref)) gg tb ⟨n0, r0, b0, c0⟩ σ L := by
  refine f_refs (SlV5 σ k0 k1 k2 k3 k4 P) h0 (fun i σ1 L ⟨a0, a1, a2, a3, a4, _, h⟩ => hG i a0 a1 a2 a3 a4 L h) ?_ ?_
  · rintro i σ1 L hi ⟨a0, a1, a2, a3, a4, rfl, hP⟩
    exact hs i a0 a1 a2 a3 a4 L hi hP
  · rintro σ1 L ⟨a0, a1, a2, a3, a4, rfl, hP⟩
    exact hd a0 a1 a2 a3 a4 L hP
theorem fpv_5 {k0 k1 k2 k3 k4 : Nat} (P : Nat → Option V → Option V → Option V → Option V → Option V → Lg → Prop) (ht : TelAll c xs (ws.map VM.dP)) (h0 : Wk (SlV5 σ k0 k1 k2 k3 k4 P 0 σ) L) (hG : ∀ i a0 a1 a2 a3 a4 L, P i a0 a1 a2 a3 a4 L → IsL K L p xs) (hs : ∀ (i : Nat) b r t a a0 a1 a2 a3 a4 L, ws[i]? = some (b, r) → (t, HO.tup [.int b, .ref a]) ∈ c → (a, HO.lst (r.map V.int)) ∈ c → P i a0 a1 a2 a3 a4 L → gg (.ref t) ((((((wipe σ [k0, k1, k2, k3, k4]).set k0 a0).set k1 a1).set k2 a2).set k3 a3).set k4 a4) L (fun σ2 L2 => tb ⟨SlV5 σ k0 k1 k2 k3 k4 P (i + 1), r0, n0, SlV5 σ k0 k1 k2 k3 k4 P (i + 1)⟩ σ2 L2)) (hd : ∀ a0 a1 a2 a3 a4 L, P ws.length a0 a1 a2 a3 a4 L → n0 ((((((wipe σ [k0, k1, k2, k3, k4]).set k0 a0).set k1 a1).set k2 a2).set k3 a3).set k4 a4) L) : ForR (wkL K p xs) gg tb ⟨n0, r0, b0, c0⟩ σ L := by
  refine f_pairs (SlV5 σ k0 k1 k2 k3 k4 P) ht h0 (fun i σ1 L ⟨a0, a1, a2, a3, a4, _, h⟩ => hG i a0 a1 a2 a3 a4 L h) ?_ ?_
  · rintro i b r t a σ1 L hi m1 m2 ⟨a0, a1, a2, a3, a4, rfl, hP⟩
    exact hs i b r t a a0 a1 a2 a3 a4 L hi m1 m2 hP
  · rintro σ1 L ⟨a0, a1, a2, a3, a4, rfl, hP⟩
    exact hd a0 a1 a2 a3 a4 L hP
theorem fqv_5 {k0 k1 k2 k3 k4 : Nat} (P : Nat → Option V → Option V → Option V → Option V → Option V → Lg → Prop) (ht : TelAll c xs (ts.map dT)) (h0 : Wk (SlV5 σ k0 k1 k2 k3 k4 P 0 σ) L) (hG : ∀ i a0 a1 a2 a3 a4 L, P i a0 a1 a2 a3 a4 L → IsL K L p xs) (hs : ∀ (i : Nat) r t a0 a1 a2 a3 a4 L, ts[i]? = some r → (t, HO.tup (r.map V.int)) ∈ c → P i a0 a1 a2 a3 a4 L → gg (.ref t) ((((((wipe σ [k0, k1, k2, k3, k4]).set k0 a0).set k1 a1).set k2 a2).set k3 a3).set k4 a4) L (fun σ2 L2 => tb ⟨SlV5 σ k0 k1 k2 k3 k4 P (i + 1), r0, n0, SlV5 σ k0 k1 k2 k3 k4 P (i + 1)⟩ σ2 L2)) (hd : ∀ a0 a1 a2 a3 a4 L, P ts.length a0 a1 a2 a3 a4 L → n0 ((((((wipe σ [k0, k1, k2, k3, k4]).set k0 a0).set k1 a1).set k2 a2).set k3 a3).set k4 a4) L) : ForR (wkL K p xs) gg tb ⟨n0, r0, b0, c0⟩ σ L := by
  refine f_tups (SlV5 σ k0 k1 k2 k3 k4 P) ht h0 (fun i σ1 L ⟨a0, a1, a2, a3, a4, _, h⟩ => hG i a0 a1 a2 a3 a4 L h) ?_ ?_
  · rintro i r t σ1 L hi m1 ⟨a0, a1, a2, a3, a4, rfl, hP⟩
    exact hs i r t a0 a1 a2 a3 a4 L hi m1 hP
  · rintro σ1 L ⟨a0, a1, a2, a3, a4, rfl, hP⟩
    exact hd a0 a1 a2 a3 a4 L hP
theorem fr_5 {k0 k1 k2 k3 k4 : Nat} (P : Nat → Lg → Prop) (h0 : Wk (P 0) L) (hs : ∀ (i : Nat) a0 a1 a2 a3 a4 L, i < n → P i L → gg (.int (i : Int)) ((((((wipe σ [k0, k1, k2, k3, k4]).set k0 a0).set k1 a1).set k2 a2).set k3 a3).set k4 a4) L (fun σ2 L2 => tb ⟨SlW σ [k0, k1, k2, k3, k4] P (i + 1), r0, n0, SlW σ [k0, k1, k2, k3, k4] P (i + 1)⟩ σ2 L2)) (hd : ∀ a0 a1 a2 a3 a4 L, P n L → n0 ((((((wipe σ [k0, k1, k2, k3, k4]).set k0 a0).set k1 a1).set k2 a2).set k3 a3).set k4 a4) L) : ForR (wkR 0 n) gg tb ⟨n0, r0, b0, c0⟩ σ L := by
  obtain ⟨L0, l0, q0⟩ := h0
  refine f_range0 (SlW σ [k0, k1, k2, k3, k4] P) ⟨L0, l0, rfl, q0⟩ ?_ ?_
  · rintro i σ1 L hi ⟨hσ, hP⟩
    obtain ⟨a0, a1, a2, a3, a4, rfl⟩ := unw5 hσ
    exact hs i a0 a1 a2 a3 a4 L hi hP
  · rintro σ1 L ⟨hσ, hP⟩
    obtain ⟨a0, a1, a2, a3, a4, rfl⟩ := unw5 hσ
    exact hd a0 a1 a2 a3 a4 L hP
theorem frn_5 {k0 k1 k2 k3 k4 : Nat} (P : Nat → Lg → Prop) (h0 : Wk (P 0) L) (hs : ∀ (i : Nat) a0 a1 a2 a3 a4 L, i < n → P i L → gg (.int (lo + i)) ((((((wipe σ [k0, k1, k2, k3, k4]).set k0 a0).set k1 a1).set k2 a2).set k3 a3).set k4 a4) L (fun σ2 L2 => tb ⟨SlW σ [k0, k1, k2, k3, k4] P (i + 1), r0, n0, SlW σ [k0, k1, k2, k3, k4] P (i + 1)⟩ σ2 L2)) (hd : ∀ a0 a1 a2 a3 a4 L, P n L → n0 ((((((wipe σ [k0, k1, k2, k3, k4]).set k0 a0).set k1 a1).set k2 a2).set k3 a3).set k4 a4) L) : ForR (wkR lo n) gg tb ⟨n0, r0, b0, c0⟩ σ L := by
  obtain ⟨L0, l0, q0⟩ := h0
  refine f_range (SlW σ [k0, k1, k2, k3, k4] P) ⟨L0, l0, rfl, q0⟩ ?_ ?_
  · rintro i σ1 L hi ⟨hσ, hP⟩
    obtain ⟨a0, a1, a2, a3, a4, rfl⟩ := unw5 hσ
    exact hs i a0 a1 a2 a3 a4 L hi hP
  · rintro σ1 L ⟨hσ, hP⟩
    obtain ⟨a0, a1, a2, a3, a4, rfl⟩ := unw5 hσ
    exact hd a0 a1 a2 a3 a4 L hP
theorem fi_5 {k0 k1 k2 k3 k4 : Nat} (P : Nat → Lg → Prop) (hv : IntsV xs ns) (h0 : Wk (P 0) L) (hG : ∀ i L, P i L → IsL K L p xs) (hs : ∀ (i : Nat) (x : Int) a0 a1 a2 a3 a4 L, ns[i]? = some x → P i L → gg (.int x) ((((((wipe σ [k0, k1, k2, k3, k4]).set k0 a0).set k1 a1).set k2 a2).set k3 a3).set k4 a4) L (fun σ2 L2 => tb ⟨SlW σ [k0, k1, k2, k3, k4] P (i + 1), r0, n0, SlW σ [k0, k1, k2, k3, k4] P (i + 1)⟩ σ2 L2)) (hd : ∀ a0 a1 a2 a3 a4 L, P ns.length L → n0 ((((((wipe σ [k0, k1, k2, k3, k4]).set k0 a0).set k1 a1).set k2 a2).set k3 a3).set k4 a4) L) : ForR (wkL K p xs) gg tb ⟨n0, r0, b0, c0⟩ σ L := by
  obtain ⟨L0, l0, q0⟩ := h0
  refine f_ints (SlW σ [k0, k1, k2, k3, k4] P) hv ⟨L0, l0, rfl, q0⟩ (fun i σ1 L h => hG i L h.2) ?_ ?_
  · rintro i x σ1 L hi ⟨hσ, hP⟩
    obtain ⟨a0, a1, a2, a3, a4, rfl⟩ := unw5 hσ
    exact hs i x a0 a1 a2 a3 a4 L hi hP
  · rintro σ1 L ⟨hσ, hP⟩
    obtain ⟨a0, a1, a2, a3, a4, rfl⟩ := unw5 hσ
    exact hd a0 a1 a2 a3 a4 L hP
theorem fv_5 {k0 k1 k2 k3 k4 : Nat} (P : Nat → Lg → Prop) (h0 : Wk (P 0) L) (hG : ∀ i L, P i L → IsL K L p (as.map V.ref)) (hs : ∀ (i : Nat) a0 a1 a2 a3 a4 L, i < as.length → P i L → gg (.ref (adrAt as (i : Int))) ((((((wipe σ [k0, k1, k2, k3, k4]).set k0 a0).set k1 a1).set k2 a2).set k3 a3).set k4 a4) L (fun σ2 L2 => tb ⟨SlW σ [k0, k1, k2, k3, k4] P (i + 1), r0, n0, SlW σ [k0, k1, k2, k3, k4] P (i + 1)⟩ σ2 L2)) (hd : ∀ a0 a1 a2 a3 a4 L, P as.length L → n0 ((((((wipe σ [k0, k1, k2, k3, k4]).set k0 a0).set k1 a1).set k2 a2).set k3 a3).set k4 a4) L) : ForR (wkL K p (as.map V.ref)) gg tb ⟨n0, r0, b0, c0⟩ σ L := by
  obtain ⟨L0, l0, q0⟩ := h0
  refine f_refs (SlW σ [k0, k1, k2, k3, k4] P) ⟨L0, l0, rfl, q0⟩ (fun i σ1 L h => hG i L h.2) ?_ ?_
  · rintro i σ1 L hi ⟨hσ, hP⟩
    obtain ⟨a0, a1, a2, a3, a4, rfl⟩ := unw5 hσ
    exact hs i a0 a1 a2 a3 a4 L hi hP
  · rintro σ1 L ⟨hσ, hP⟩
    obtain ⟨a0, a1, a2, a3, a4, rfl⟩ := unw5 hσ
    exact hd a0 a1 a2 a3 a4 L hP
theorem fl_5 {k0 k1 k2 k3 k4 : Nat} (P : Nat → Lg → Prop) (h0 : Wk (P 0) L) (hG : ∀ i L, P i L → IsL K L p xs) (hs : ∀ (i : Nat) (x : V) a0 a1 a2 a3 a4 L, xs[i]? = some x → P i L → gg x ((((((wipe σ [k0, k1, k2, k3, k4]).set k0 a0).set k1 a1).set k2 a2).set k3 a3).set k4 a4) L (fun σ2 L2 => tb ⟨SlW σ [k0, k1, k2, k3, k4] P (i + 1), r0, n0, SlW σ [k0, k1, k2, k3, k4] P (i + 1)⟩ σ2 L2)) (hd : ∀ a0 a1 a2 a3 a4 L, P xs.length L → n0 ((((((wipe σ [k0, k1, k2, k3, k4]).set k0 a0).set k1 a1).set k2 a2).set k3 a3).set k4 a4) L) : ForR (wkL K p xs) gg tb ⟨n0, r0, b0, c0⟩ σ L := by
  obtain ⟨L0, l0, q0⟩ := h0
  refine f_list (SlW σ [k0, k1, k2, k3, k4] P) ⟨L0, l0, rfl, q0⟩ (fun i σ1 L h => hG i L h.2) ?_ ?_
  · rintro i x σ1 L hi ⟨hσ, hP⟩
    obtain ⟨a0, a1, a2, a3, a4, rfl⟩ := unw5 hσ
    exact hs i x a0 a1 a2 a3 a4 L hi hP
  · rintro σ1 L ⟨hσ, hP⟩
    obtain ⟨a0, a1, a2, a3, a4, rfl⟩ := unw5 hσ
    exact hd a0 a1 a2 a3 a4 L hP
theorem ft_5 {k0 k1 k2 k3 k4 : Nat} (P : Nat → Lg → Prop) (h0 : Wk (P 0) L) (hG : ∀ i L, P i L → IsT K L p xs) (hs : ∀ (i : Nat) (x : V) a0 a1 a2 a3 a4 L, xs[i]? = some x → P i L → gg x ((((((wipe σ [k0, k1, k2, k3, k4]).set k0 a0).set k1 a1).set k2 a2).set k3 a3).set k4 a4) L (fun σ2 L2 => tb ⟨SlW σ [k0, k1, k2, k3, k4] P (i + 1), r0, n0, SlW σ [k0, k1, k2, k3, k4] P (i + 1)⟩ σ2 L2)) (hd : ∀ a0 a1 a2 a3 a4 L, P xs.length L → n0 ((((((wipe σ [k0, k1, k2, k3, k4]).set k0 a0).set k1 a1).set k2 a2).set k3 a3).set k4 a4) L) : ForR (wkT K p xs) gg tb ⟨n0, r0, b0, c0⟩ σ L := by
  obtain ⟨L0, l0, q0⟩ := h0
  refine f_tup (SlW σ [k0, k1, k2, k3, k4] P) ⟨L0, l0, rfl, q0⟩ (fun i σ1 L h => hG i L h.2) ?_ ?_
  · rintro i x σ1 L hi ⟨hσ, hP⟩
    obtain ⟨a0, a1, a2, a3, a4, rfl⟩ := unw5 hσ
    exact hs i x a0 a1 a2 a3 a4 L hi hP
  · rintro σ1 L ⟨hσ, hP⟩
    obtain ⟨a0, a1, a2, a3, a4, rfl⟩ := unw5 hσ
    exact hd a0 a1 a2 a3 a4 L hP
theorem fp_5 {k0 k1 k2 k3 k4 : Nat} (P : Nat → Lg → Prop) (ht : TelAll c xs (ws.map VM.dP)) (h0 : Wk (P 0) L) (hG : ∀ i L, P i L → IsL K L p xs) (hs : ∀ (i : Nat) b r t a a0 a1 a2 a3 a4 L, ws[i]? = some (b, r) → (t, HO.tup [.int b, .ref a]) ∈ c → (a, HO.lst (r.map V.int)) ∈ c → P i L → gg (.ref t) ((((((wipe σ [k0, k1, k2, k3, k4]).set k0 a0).set k1 a1).set k2 a2).set k3 a3).set k4 a4) L (fun σ2 L2 => tb ⟨SlW σ [k0, k1, k2, k3, k4] P (i + 1), r0, n0, SlW σ [k0, k1, k2, k3, k4] P (i + 1)⟩ σ2 L2)) (hd : ∀ a0 a1 a2 a3 a4 L, P ws.length L → n0 ((((((wipe σ [k0, k1, k2, k3, k4]).set k0 a0).set k1 a1).set k2 a2).set k3 a3).set k4 a4) L) : ForR (wkL K p xs) gg tb ⟨n0, r0, b0, c0⟩ σ L := by
  obtain ⟨L0, l0, q0⟩ := h0
  refine f_pairs (SlW σ [k0, k1, k2, k3, k4] P) ht ⟨L0, l0, rfl, q0⟩ (fun i σ1 L h => hG i L h.2) ?_ ?_
  · rintro i b r t a σ1 L hi m1 m2 ⟨hσ, hP⟩
    obtain ⟨a0, a1, a2, a3, a4, rfl⟩ := unw5 hσ
    exact hs i b r t a a0 a1 a2 a3 a4 L hi m1 m2 hP
  · rintro σ1 L ⟨hσ, hP⟩
    obtain ⟨a0, a1, a2, a3, a4, rfl⟩ := unw5 hσ
    exact hd a0 a1 a2 a3 a4 L hP
theorem fit_5 {k0 k1 k2 k3 k4 : Nat} (P : Nat → Lg → Prop) (hv : IntsV xs ns) (h0 : Wk (P 0) L) (hG : ∀ i L, P i L → IsT K L p xs) (hs : ∀ (i : Nat) (x : Int) a0 a1 a2 a3 a4 L, ns[i]? = some x → P i L → gg (.int x) ((((((wipe σ [k0, k1, k2, k3, k4]).set k0 a0).set k1 a1).set k2 a2).set k3 a3).set k4 a4) L (fun σ2 L2 => tb ⟨SlW σ [k0, k1, k2, k3, k4] P (i + 1), r0, n0, SlW σ [k0, k1, k2, k3, k4] P (i + 1)⟩ σ2 L2)) (hd : ∀ a0 a1 a2 a3 a4 L, P ns.length L → n0 ((((((wipe σ [k0, k1, k2, k3, k4]).set k0 a0).set k1 a1).set k2 a2).set k3 a3).set k4 a4) L) : ForR (wkT K p xs) gg tb ⟨n0, r0, b0, c0⟩ σ L := by
  obtain ⟨L0, l0, q0⟩ := h0
  refine f_intsT (SlW σ [k0, k1, k2, k3, k4] P) hv ⟨L0, l0, rfl, q0⟩ (fun i σ1 L h => hG i L h.2) ?_ ?_
  · rintro i x σ1 L hi ⟨hσ, hP⟩
    obtain ⟨a0, a1, a2, a3, a4, rfl⟩ := unw5 hσ
    exact hs i x a0 a1 a2 a3 a4 L hi hP
  · rintro σ1 L ⟨hσ, hP⟩
    obtain ⟨a0, a1, a2, a3, a4, rfl⟩ := unw5 hσ
    exact hd a0 a1 a2 a3 a4 L hP
theorem fq_5 {k0 k1 k2 k3 k4 : Nat} (P : Nat → Lg → Prop) (ht : TelAll c xs (ts.map dT)) (h0 : Wk (P 0) L) (hG : ∀ i L, P i L → IsL K L p xs) (hs : ∀ (i : Nat) r t a0 a1 a2 a3 a4 L, ts[i]? = some r → (t, HO.tup (r.map V.int)) ∈ c → P i L → gg (.ref t) ((((((wipe σ [k0, k1, k2, k3, k4]).set k0 a0).set k1 a1).set k2 a2).set k3 a3).set k4 a4) L (fun σ2 L2 => tb ⟨SlW σ [k0, k1, k2, k3, k4] P (i + 1), r0, n0, SlW σ [k0, k1, k2, k3, k4] P (i + 1)⟩ σ2 L2)) (hd : ∀ a0 a1 a2 a3 a4 L, P ts.length L → n0 ((((((wipe σ [k0, k1, k2, k3, k4]).set k0 a0).set k1 a1).set k2 a2).set k3 a3).set k4 a4) L) : ForR (wkL K p xs) gg tb ⟨n0, r0, b0, c0⟩ σ L := by
  obtain ⟨L0, l0, q0⟩ := h0
  refine f_tups (SlW σ [k0, k1, k2, k3, k4] P) ht ⟨L0, l0, rfl, q0⟩ (fun i σ1 L h => hG i L h.2) ?_ ?_
  · rintro i r t σ1 L hi m1 ⟨hσ, hP⟩
    obtain ⟨a0, a1, a2, a3, a4, rfl⟩ := unw5 hσ
    exact hs i r t a0 a1 a2 a3 a4 L hi m1 hP
  · rintro σ1 L ⟨hσ, hP⟩
    obtain ⟨a0, a1, a2, a3, a4, rfl⟩ := unw5 hσ
    exact hd a0 a1 a2 a3 a4 L hP
theorem unw6 {σ σ1 : St} {k0 k1 k2 k3 k4 k5 : Nat} (h : wipe σ1 [k0, k1, k2, k3, k4, k5] = wipe σ [k0, k1, k2, k3, k4, k5]) : ∃ a0 a1 a2 a3 a4 a5, σ1 = (((((((wipe σ [k0, k1, k2, k3, k4, k5]).set k0 a0).set k1 a1).set k2 a2).set k3 a3).set k4 a4).set k5 a5) := by
  generalize wipe σ [k0, k1, k2, k3, k4, k5] = τ at h ⊢
  obtain ⟨a0, h⟩ := unset h
  obtain ⟨a1, h⟩ := unset h
  obtain ⟨a2, h⟩ := unset h
  obtain ⟨a3, h⟩ := unset h
  obtain ⟨a4, h⟩ := unset h
  obtain ⟨a5, h⟩ := unset h
  exact ⟨a0, a1, a2, a3, a4, a5, h⟩
def SlV6 (σ : St) (k0 k1 k2 k3 k4 k5 : Nat) (P : Nat → Option V → Option V → Option V → Option V → Option V → Option V → Lg → Prop) : Nat → St → Lg → Prop := fun i σ1 L => ∃ a0 a1 a2 a3 a4 a5, σ1 = (((((((wipe σ [k0, k1, k2, k3, k4, k5]).set k0 a0).set k1 a1).set k2 a2).set k3 a3).set k4 a4).set k5 a5) ∧ P i a0 a1 a2 a3 a4 a5 L
theorem frv_6 {k0 k1 k2 k3 k4 k5 : Nat} (P : Nat → Option V → Option V → Option V → Option V → Option V → Option V → Lg → Prop) (h0 : Wk (SlV6 σ k0 k1 k2 k3 k4 k5 P 0 σ) L) (hs : ∀ (i : Nat) a0 a1 a2 a3 a4 a5 L, i < n → P i a0 a1 a2 a3 a4 a5 L → gg (.int (i : Int)) (((((((wipe σ [k0, k1, k2, k3, k4, k5]).set k0 a0).set k1 a1).set k2 a2).set k3 a3).set k4 a4).set k5 a5) L (fun σ2 L2 => tb ⟨SlV6 σ k0 k1 k2 k3 k4 k5 P (i + 1), r0, n0, SlV6 σ k0 k1 k2 k3 k4 k5 P (i + 1)⟩ σ2 L2)) (hd : ∀ a0 a1 a2 a3 a4 a5 L, P n a0 a1 a2 a3 a4 a5 L → n0 (((((((wipe σ [k0, k1, k2, k3, k4, k5]).set k0 a0).set k1 a1).set k2 a2).set k3 a3).set k4 a4).set k5 a5) L) : ForR (wkR 0 n) gg tb ⟨n0, r0, b0, c0⟩ σ L := by
  refine f_range0 (SlV6 σ k0 k1 k2 k3 k4 k5 P) h0 ?_ ?_
  · rintro i σ1 L hi ⟨a0, a1, a2, a3, a4, a5, rfl, hP⟩
    exact hs i a0 a1 a2 a3 a4 a5 L hi hP
  · rintro σ1 L ⟨a0, a1, a2, a3, a4, a5, rfl, hP⟩
    exact hd a0 a1 a2 a3 a4 a5 L hP
theorem frnv_6 {k0 k1 k2 k3 k4 k5 : Nat} (P : Nat → Option V → Option V → Option V → Option V → Option V → Option V → Lg → Prop) (h0 : Wk (SlV6 σ k0 k1 k2 k3 k4 k5 P 0 σ) L) (hs : ∀ (i : Nat) a0 a1 a2 a3 a4 a5 L, i < n → P i a0 a1 a2 a3 a4 a5 L → gg (.int (lo + i)) (((((((wipe σ [k0, k1, k2, k3, k4, k5]).set k0 a0).set k1 a1).set k2 a2).set k3 a3).set k4 a4).set k5 a5) L (fun σ2 L2 => tb ⟨SlV6 σ k0 k1 k2 k3 k4 k5 P (i + 1), r0, n0, SlV6 σ k0 k1 k2 k3 k4 k5 P (i + 1)⟩ σ2 L2)) (hd : ∀ a0 a1 a2 a3 a4 a5 L, P n a0 a1 a2 a3 a4 a5 L → n0 (((((((wipe σ [k0, k1, k2, k3, k4, k5]).set k0 a0).set k1 a1).set k2 a2).set k3 a3).set k4 a4).set k5 a5) L) : ForR (wkR lo n) gg tb ⟨n0, r0, b0, c0⟩ σ L := by
  refine f_range (SlV6 σ k0 k1 k2 k3 k4 k5 P) h0 ?_ ?_
  · rintro i σ1 L hi ⟨a0, a1, a2, a3, a4, a5, rfl, hP⟩
    exact hs i a0 a1 a2 a3 a4 a5 L hi hP
  · rintro σ1 L ⟨a0, a1, a2, a3, a4, a5, rfl, hP⟩
    exact hd a0 a1 a2 a3 a4 a5 L hP
theorem fiv_6 {k0 k1 k2 k3 k4 k5 : Nat} (P : Nat → Option V → Option V → Option V → Option V → Option V → Option V → Lg → Prop) (hv : IntsV xs ns) (h0 : Wk (SlV6 σ k0 k1 k2 k3 k4 k5 P 0 σ) L) (hG : ∀ i a0 a1 a2 a3 a4 a5 L, P i a0 a1 a2 a3 a4 a5 L → IsL K L p xs) (hs : ∀ (i : Nat) (x : Int) a0 a1 a2 a3 a4 a5 L, ns[i]? = some x → P i a0 a1 a2 a3 a4 a5 L → gg (.int x) (((((((wipe σ [k0, k1, k2, k3, k4, k5]).set k0 a0).set k1 a1).set k2 a2).set k3 a3).set k4 a4).set k5 a5) L (fun σ2 L2 => tb ⟨SlV6 σ k0 k1 k2 k3 k4 k5 P (i + 1), r0, n0, SlV6 σ k0 k1 k2 k3 k4 k5 P (i + 1)⟩ σ2 L2)) (hd : ∀ a0 a1 a2 a3 a4 a5 L, P ns.length a0 a1 a2 a3 a4 a5 L → n0 (((((((wipe σ [k0, k1, k2, k3, k4, k5]).set k0 a0).set k1 a1).set k2 a2).set k3 a3).set k4 a4).set k5 a5) L) : ForR (wkL K p xs) gg tb ⟨n0, r0, b0, c0⟩ σ L := by
  refine f_ints (SlV6 σ k0 k1 k2 k3 k4 k5 P) hv h0 (fun i σ1 L ⟨a0, a1, a2, a3, a4, a5, _, h⟩ => hG i a0 a1 a2 a3 a4 a5 L h) ?_ ?_
  · rintro i x σ1 L hi ⟨a0, a1, a2, a3, a4, a5, rfl, hP⟩
    exact hs i x a0 a1 a2 a3 a4 a5 L hi hP
  · rintro σ1 L ⟨a0, a1, a2, a3, a4, a5, rfl, hP⟩
    exact hd a0 a1 a2 a3 a4 a5 L hP
theorem fvv_6 {k0 k1 k2 k3 k4 k5 : Nat} (P : Nat → Option V → Option V → Option V → Option V → Option V → Option V → Lg → Prop) (h0 : Wk (SlV6 σ k0 k1 k2 k3 k4 k5 P 0 σ) L) (hG : ∀ i a0 a1 a2 a3 a4 a5 L, P i a0 a1 a2 a3 a4 a5 L → IsL K L p (as.map V.ref)) (hs : ∀ (i : Nat) a0 a1 a2 a3 a4 a5 L, i < as.length → P i a0 a1 a2 a3 a4 a5 L → gg (.ref (adrAt as (i : Int))) (((((((wipe σ [k0, k1, k2, k3, k4, k5]).set k0 a0).set k1 a1).set k2 a2).set k3 a3).set k4 a4).set k5 a5) L (fun σ2 L2 => tb ⟨SlV6 σ k0 k1 k2 k3 k4 k5 P (i + 1), r0, n0, SlV6 σ k0 k1 k2 k3 k4 k5 P (i + 1)⟩ σ2 L2)) (hd : ∀ a0 a1 a2 a3 a4 a5 L, P as.length a0 a1 a2 a3 a4 a5 L → n0 (((((((wipe σ [k0, k1, k2, k3, k4, k5]).set k0 a0).set k1 a1).set k2 a2).set k3 a3).set k4 a4).set k5 a5) L) : ForR (wkL K p (as.map V.ref)) gg tb ⟨n0, r0, b0, c0⟩ σ L := by
  refine f_refs (SlV6 σ k0 k1 k2 k3 k4 k5 P) h0 (fun i σ1 L ⟨a0, a1, a2, a3, a4, a5, _, h⟩ => hG i a0 a1 a2 a3 a4 a5 L h) ?_ ?_
  · rintro i σ1 L hi ⟨a0, a1, a2, a3, a4, a5, rfl, hP⟩
    exact hs i a0 a1 a2 a3 a4 a5 L hi hP
  · rintro σ1 L ⟨a0, a1, a2, a3, a4, a5, rfl, hP⟩
    exact hd a0 a1 a2 a3 a4 a5 L hP
theorem fpv_6 {k0 k1 k2 k3 k4 k5 : Nat} (P : Nat → Option V → Option V → Option V → Option V → Option V → Option V → Lg → Prop) (ht : TelAll c xs (ws.map VM.dP)) (h0 : Wk (SlV6 σ k0 k1 k2 k3 k4 k5 P 0 σ) L) (hG : ∀ i a0 a1 a2 a3 a4 a5 L, P i a0 a1 a2 a3 a4 a5 L → IsL K L p xs) (hs : ∀ (i : Nat) b r t a a0 a1 a2 a3 a4 a5 L, ws[i]? = some (b, r) → (t, HO.tup [.int b, .ref a]) ∈ c → (a, HO.lst (r.map V.int)) ∈ c → P i a0 a1 a2 a3 a4 a5 L → gg (.ref t) (((((((wipe σ [k0, k1, k2, k3, k4, k5]).set k0 a0).set k1 a1).set k2 a2).set k3 a3).set k4 a4).set k5 a5) L (fun σ2 L2 => tb ⟨SlV6 σ k0 k1 k2 k3 k4 k5 P (i + 1), r0, n0, SlV6 σ k0 k1 k2 k3 k4 k5 P (i + 1)⟩ σ2 L2)) (hd : ∀ a0 a1 a2 a3 a4 a5 L, P ws.length a0 a1 a2 a3 a4 a5 L → n0 (((((((wipe σ [k0, k1, k2, k3, k4, k5]).set k0 a0).set k1 a1).set k2 a2).set k3 a3).set k4 a4).set k5 a5) L) : ForR (wkL K p xs) gg tb ⟨n0, r0, b0, c0⟩ σ L := by
  refine f_pairs (SlV6 σ k0 k1 k2 k3 k4 k5 P) ht h0 (fun i σ1 L ⟨a0, a1, a2, a3, a4, a5, _, h⟩ => hG i a0 a1 a2 a3 a4 a5 L h) ?_ ?_
  · rintro i b r t a σ1 L hi m1 m2 ⟨a0, a1, a2, a3, a4, a5, rfl, hP⟩
    exact hs i b r t a a0 a1 a2 a3 a4 a5 L hi m1 m2 hP
  · rintro σ1 L ⟨a0, a1, a2, a3, a4, a5, rfl, hP⟩
    exact hd a0 a1 a2 a3 a4 a5 L hP
theorem fqv_6 {k0 k1 k2 k3 k4 k5 : Nat} (P : Nat → Option V → Option V → Option V → Option V → Option V → Option V → Lg → Prop) (ht : TelAll c xs (ts.map dT)) (h0 : Wk (SlV6 σ k0 k1 k2 k3 k4 k5 P 0 σ) L) (hG : ∀ i a0 a1 a2 a3 a4 a5 L, P i a0 a1 a2 a3 a4 a5 L → IsL K L p xs) (hs : ∀ (i : Nat) r t a0 a1 a2 a3 a4 a5 L, ts[i]? = some r → (t, HO.tup (r.map V.int)) ∈ c → P i a0 a1 a2 a3 a4 a5 L → gg (.ref t) (((((((wipe σ [k0, k1, k2, k3, k4, k5]).set k0 a0).set k1 a1).set k2 a2).set k3 a3).set k4 a4).set k5 a5) L (fun σ2 L2 => tb ⟨SlV6 σ k0 k1 k2 k3 k4 k5 P (i + 1), r0, n0, SlV6 σ k0 k1 k2 k3 k4 k5 P (i + 1)⟩ σ2 L2)) (hd : ∀ a0 a1 a2 a3 a4 a5 L, P ts.length a0 a1 a2 a3 a4 a5 L → n0 (((((((wipe σ [k0, k1, k2, k3, k4, k5]).set k0 a0).set k1 a1).set k2 a2).set k3 a3).set k4 a4).set k5 a5) L) : ForR (wkL K p xs) gg tb ⟨n0, r0, b0, c0⟩ σ L := by
  refine f_tups (SlV6 σ k0 k1 k2 k3 k4 k5 P) ht h0 (fun i σ1 L ⟨a0, a1, a2, a3, a4, a5, _, h⟩ => hG i a0 a1 a2 a3 a4 a5 L h) ?_ ?_
  · rintro i r t σ1 L hi m1 ⟨a0, a1, a2, a3, a4, a5, rfl, hP⟩
    exact hs i r t a0 a1 a2 a3 a4 a5 L hi m1 hP
  · rintro σ1 L ⟨a0, a1, a2, a3, a4, a5, rfl, hP⟩
    exact hd a0 a1 a2 a3 a4 a5 L hP
theorem fr_6 {k0 k1 k2 k3 k4 k5 : Nat} (P : Nat → Lg → Prop) (h0 : Wk (P 0) L) (hs : ∀ (i : Nat) a0 a1 a2 a3 a4 a5 L, i < n → P i L → gg (.int (i : Int)) (((((((wipe σ [k0, k1, k2, k3, k4, k5]).set k0 a0).set k1 a1).set k2 a2).set k3 a3).set k4 a4).set k5 a5) L (fun σ2 L2 => tb ⟨SlW σ [k0, k1, k2, k3, k4, k5] P (i + 1), r0, n0, SlW σ [k0, k1, k2, k3, k4, k5] P (i + 1)⟩ σ2 L2)) (hd : ∀ a0 a1 a2 a3 a4 a5 L, P n L → n0 (((((((wipe σ [k0, k1, k2, k3, k4, k5]).set k0 a0).set k1 a1).set k2 a2).set k3 a3).set k4 a4).set k5 a5) L) : ForR (wkR 0 n) gg tb ⟨n0, r0, b0, c0⟩ σ L := by
  obtain ⟨L0, l0, q0⟩ := h0
  refine f_range0 (SlW σ [k0, k1, k2, k3, k4, k5] P) ⟨L0, l0, rfl, q0⟩ ?_ ?_
  · rintro i σ1 L hi ⟨hσ, hP⟩
    obtain ⟨a0, a1, a2, a3, a4, a5, rfl⟩ := unw6 hσ
    exact hs i a0 a1 a2 a3 a4 a5 L hi hP
  · rintro σ1 L ⟨hσ, hP⟩
    obtain ⟨a0, a1, a2, a3, a4, a5, rfl⟩ := unw6 hσ
    exact hd a0 a1 a2 a3 a4 a5 L hP
theorem frn_6 {k0 k1 k2 k3 k4 k5 : Nat} (P : Nat → Lg → Prop) (h0 : Wk (P 0) L) (hs : ∀ (i : Nat) a0 a1 a2 a3 a4 a5 L, i < n → P i L → gg (.int (lo + i)) (((((((wipe σ [k0, k1, k2, k3, k4, k5]).set k0 a0).set k1 a1).set k2 a2).set k3 a3).set k4 a4).set k5 a5) L (fun σ2 L2 => tb ⟨SlW σ [k0, k1, k2, k3, k4, k5] P (i + 1), r0, n0, SlW σ [k0, k1, k2, k3, k4, k5] P (i + 1)⟩ σ2 L2)) (hd : ∀ a0 a1 a2 a3 a4 a5 L, P n L → n0 (((((((wipe σ [k0, k1, k2, k3, k4, k5]).set k0 a0).set k1 a1).set k2 a2).set k3 a3).set k4 a4).set k5 a5) L) : ForR (wkR lo n) gg tb ⟨n0, r0, b0, c0⟩ σ L := by
  obtain ⟨L0, l0, q0⟩ := h0
  refine f_range (SlW σ [k0, k1, k2, k3, k4, k5] P) ⟨L0, l0, rfl, q0⟩ ?_ ?_
  · rintro i σ1 L hi ⟨hσ, hP⟩
    obtain ⟨a0, a1, a2, a3, a4, a5, rfl⟩ := unw6 hσ
    exact hs i a0 a1 a2 a3 a4 a5 L hi hP
  · rintro σ1 L ⟨hσ, hP⟩
    obtain ⟨a0, a1, a2, a3, a4, a5, rfl⟩ := unw6 hσ
    exact hd a0 a1 a2 a3 a4 a5 L hP
theorem fi_6 {k0 k1 k2 k3 k4 k5 : Nat} (P : Nat → Lg → Prop) (hv : IntsV xs ns) (h0 : Wk (P 0) L) (hG : ∀ i L, P i L → IsL K L p xs) (hs : ∀ (i : Nat) (x : Int) a0 a1 a2 a3 a4 a5 L, ns[i]? = some x → P i L → gg (.int x) (((((((wipe σ [k0, k1, k2, k3, k4, k5]).set k0 a0).set k1 a1).set k2 a2).set k3 a3).set k4 a4).set k5 a5) L (fun σ2 L2 => tb ⟨SlW σ [k0, k1, k2, k3, k4, k5] P (i + 1), r0, n0, SlW σ [k0, k1, k2, k3, k4, k5] P (i + 1)⟩ σ2 L2)) (hd : ∀ a0 a1 a2 a3 a4 a5 L, P ns.length L → n0 (((((((wipe σ [k0, k1, k2, k3, k4, k5]).set k0 a0).set k1 a1).set k2 a2).set k3 a3).set k4 a4).set k5 a5) L) : ForR (wkL K p xs) gg tb ⟨n0, r0, b0, c0⟩ σ L := by
  obtain ⟨L0, l0, q0⟩ := h0
  refine f_ints (SlW σ [k0, k1, k2, k3, k4, k5] P) hv ⟨L0, l0, rfl, q0⟩ (fun i σ1 L h => hG i L h.2) ?_ ?_
  · rintro i x σ1 L hi ⟨hσ, hP⟩
    obtain ⟨a0, a1, a2, a3, a4, a5, rfl⟩ := unw6 hσ
    exact hs i x a0 a1 a2 a3 a4 a5 L hi hP
  · rintro σ1 L ⟨hσ, hP⟩
    obtain ⟨a0, a1, a2, a3, a4, a5, rfl⟩ := unw6 hσ
    exact hd a0 a1 a2 a3 a4 a5 L hP
theorem fv_6 {k0 k1 k2 k3 k4 k5 : Nat} (P : Nat → Lg → Prop) (h0 : Wk (P 0) L) (hG : ∀ i L, P i L → IsL K L p (as.map V.ref)) (hs : ∀ (i : Nat) a0 a1 a2 a3 a4 a5 L, i < as.length → P i L → gg (.ref (adrAt as (i : Int))) (((((((wipe σ [k0, k1, k2, k3, k4, k5]).set k0 a0).set k1 a1).set k2 a2).set k3 a3).set k4 a4).set k5 a5) L (fun σ2 L2 => tb ⟨SlW σ [k0, k1, k2, k3, k4, k5] P (i + 1), r0, n0, SlW σ [k0, k1, k2, k3, k4, k5] P (i + 1)⟩ σ2 L2)) (hd : ∀ a0 a1 a2 a3 a4 a5 L, P as.length L → n0 (((((((wipe σ [k0, k1, k2, k3, k4, k5]).set k0 a0).set k1 a1).set k2 a2).set k3 a3).set k4 a4).set k5 a5) L) : ForR (wkL K p (as.map V.ref)) gg tb ⟨n0, r0, b0, c0⟩ σ L := by
  obtain ⟨L0, l0, q0⟩ := h0
  refine f_refs (SlW σ [k0, k1, k2, k3, k4, k5] P) ⟨L0, l0, rfl, q0⟩ (fun i σ1 L h => hG i L h.2) ?_ ?_
  · rintro i σ1 L hi ⟨hσ, hP⟩
    obtain ⟨a0, a1, a2, a3, a4, a5, rfl⟩ := unw6 hσ
    exact hs i a0 a1 a2 a3 a4 a5 L hi hP
  · rintro σ1 L ⟨hσ, hP⟩
    obtain ⟨a0, a1, a2, a3, a4, a5, rfl⟩ := unw6 hσ
    exact hd a0 a1 a2 a3 a4 a5 L hP
theorem fl_6 {k0 k1 k2 k3 k4 k5 : Nat} (P : Nat → Lg → Prop) (h0 : Wk (P 0) L) (hG : ∀ i L, P i L → IsL K L p xs) (hs : ∀ (i : Nat) (x : V) a0 a1 a2 a3 a4 a5 L, xs[i]? = some x → P i L → gg x (((((((wipe σ [k0, k1, k2, k3, k4, k5]).set k0 a0).set k1 a1).set k2 a2).set k3 a3).set k4 a4).set k5 a5) L (fun σ2 L2 => tb ⟨SlW σ [k0, k1, k2, k3, k4, k5] P (i + 1), r0, n0, SlW σ [k0, k1, k2, k3, k4, k5] P (i + 1)⟩ σ2 L2)) (hd : ∀ a0 a1 a2 a3 a4 a5 L, P xs.length L → n0 (((((((wipe σ [k0, k1, k2, k3, k4, k5]).set k0 a0).set k1 a1).set k2 a2).set k3 a3).set k4 a4).set k5 a5) L) : ForR (wkL K p xs) gg tb ⟨n0, r0, b0, c0⟩ σ L := by
  obtain ⟨L0, l0, q0⟩ := h0
  refine f_list (SlW σ [k0, k1, k2, k3, k4, k5] P) ⟨L0, l0, rfl, q0⟩ (fun i σ1 L h => hG i L h.2) ?_ ?_
  · rintro i x σ1 L hi ⟨hσ, hP⟩
    obtain ⟨a0, a1, a2, a3, a4, a5, rfl⟩ := unw6 hσ
    exact hs i x a0 a1 a2 a3 a4 a5 L hi hP
  · rintro σ1 L ⟨hσ, hP⟩
    obtain ⟨a0, a1, a2, a3, a4, a5, rfl⟩ := unw6 hσ
    exact hd a0 a1 a2 a3 a4 a5 L hP
theorem ft_6 {k0 k1 k2 k3 k4 k5 : Nat} (P : Nat → Lg → Prop) (h0 : Wk (P 0) L) (hG : ∀ i L, P i L → IsT K L p xs) (hs : ∀ (i : Nat) (x : V) a0 a1 a2 a3 a4 a5 L, xs[i]? = some x → P i L → gg x (((((((wipe σ [k0, k1, k2, k3, k4, k5]).set k0 a0).set k1 a1).set k2 a2).set k3 a3).set k4 a4).set k5 a5) L (fun σ2 L2 => tb ⟨SlW σ [k0, k1, k2, k3, k4, k5] P (i + 1), r0, n0, SlW σ [k0, k1, k2, k3, k4, k5] P (i + 1)⟩ σ2 L2)) (hd : ∀ a0 a1 a2 a3 a4 a5 L, P xs.length L → n0 (((((((wipe σ [k0, k1, k2, k3, k4, k5]).set k0 a0).set k1 a1).set k2 a2).set k3 a3).set k4 a4).set k5 a5) L) : ForR (wkT K p xs) gg tb ⟨n0, r0, b0, c0⟩ σ L := by
  obtain ⟨L0, l0, q0⟩ := h0
  refine f_tup (SlW σ [k0, k1, k2, k3, k4, k5] P) ⟨L0, l0, rfl, q0⟩ (fun i σ1 L h => hG i L h.2) ?_ ?_
  · rintro i x σ1 L hi ⟨hσ, hP⟩
    obtain ⟨a0, a1, a2, a3, a4, a5, rfl⟩ := unw6 hσ
    exact hs i x a0 a1 a2 a3 a4 a5 L hi hP
  · rintro σ1 L ⟨hσ, hP⟩
    obtain ⟨a0, a1, a2, a3, a4, a5, rfl⟩ := unw6 hσ
    exact hd a0 a1 a2 a3 a4 a5 L hP
theorem fp_6 {k0 k1 k2 k3 k4 k5 : Nat} (P : Nat → Lg → Prop) (ht : TelAll c xs (ws.map VM.dP)) (h0 : Wk (P 0) L) (hG : ∀ i L, P i L → IsL K L p xs) (hs : ∀ (i : Nat) b r t a a0 a1 a2 a3 a4 a5 L, ws[i]? = some (b, r) → (t, HO.tup [.int b, .ref a]) ∈ c → (a, HO.lst (r.map V.int)) ∈ c → P i L → gg (.ref t) (((((((wipe σ [k0, k1, k2, k3, k4, k5]).set k0 a0).set k1 a1).set k2 a2).set k3 a3).set k4 a4).set k5 a5) L (fun σ2 L2 => tb ⟨SlW σ [k0, k1, k2, k3, k4, k5] P (i + 1), r0, n0, SlW σ [k0, k1, k2, k3, k4, k5] P (i + 1)⟩ σ2 L2)) (hd : ∀ a0 a1 a2 a3 a4 a5 L, P ws.length L → n0 (((((((wipe σ [k0, k1, k2, k3, k4, k5]).set k0 a0).set k1 a1).set k2 a2).set k3 a3).set k4 a4).set k5 a5) L) : ForR (wkL K p xs) gg tb ⟨n0, r0, b0, c0⟩ σ L := by
  obtain ⟨L0, l0, q0⟩ := h0
  refine f_pairs (SlW σ [k0, k1, k2, k3, k4, k5] P) ht ⟨L0, l0, rfl, q0⟩ (fun i σ1 L h => hG i L h.2) ?_ ?_
  · rintro i b r t a σ1 L hi m1 m2 ⟨hσ, hP⟩
    obtain ⟨a0, a1, a2, a3, a4, a5, rfl⟩ := unw6 hσ
    exact hs i b r t a a0 a1 a2 a3 a4 a5 L hi m1 m2 hP
  · rintro σ1 L ⟨hσ, hP⟩
    obtain ⟨a0, a1, a2, a3, a4, a5, rfl⟩ := unw6 hσ
    exact hd a0 a1 a2 a3 a4 a5 L hP
theorem fit_6 {k0 k1 k2 k3 k4 k5 : Nat} (P : Nat → Lg → Prop) (hv : IntsV xs ns) (h0 : Wk (P 0) L) (hG : ∀ i L, P i L → IsT K L p xs) (hs : ∀ (i : Nat) (x : Int) a0 a1 a2 a3 a4 a5 L, ns[i]? = some x → P i L → gg (.int x) (((((((wipe σ [k0, k1, k2, k3, k4, k5]).set k0 a0).set k1 a1).set k2 a2).set k3 a3).set k4 a4).set k5 a5) L (fun σ2 L2 => tb ⟨SlW σ [k0, k1, k2, k3, k4, k5] P (i + 1), r0, n0, SlW σ [k0, k1, k2, k3, k4, k5] P (i + 1)⟩ σ2 L2)) (hd : ∀ a0 a1 a2 a3 a4 a5 L, P ns.length L → n0 (((((((wipe σ [k0, k1, k2, k3, k4, k5]).set k0 a0).set k1 a1).set k2 a2).set k3 a3).set k4 a4).set k5 a5) L) : ForR (wkT K p xs) gg tb ⟨n0, r0, b0, c0⟩ σ L := by
  obtain ⟨L0, l0, q0⟩ := h0
  refine f_intsT (SlW σ [k0, k1, k2, k3, k4, k5] P) hv ⟨L0, l0, rfl, q0⟩ (fun i σ1 L h => hG i L h.2) ?_ ?_
  · rintro i x σ1 L hi ⟨hσ, hP⟩
    obtain ⟨a0, a1, a2, a3, a4, a5, rfl⟩ := unw6 hσ
    exact hs i x a0 a1 a2 a3 a4 a5 L hi hP
  · rintro σ1 L ⟨hσ, hP⟩
    obtain ⟨a0, a1, a2, a3, a4, a5, rfl⟩ := unw6 hσ
    exact hd a0 a1 a2 a3 a4 a5 L hP
theorem fq_6 {k0 k1 k2 k3 k4 k5 : Nat} (P : Nat → Lg → Prop) (ht : TelAll c xs (ts.map dT)) (h0 : Wk (P 0) L) (hG : ∀ i L, P i L → IsL K L p xs) (hs : ∀ (i : Nat) r t a0 a1 a2 a3 a4 a5 L, ts[i]? = some r → (t, HO.tup (r.map V.int)) ∈ c → P i L → gg (.ref t) (((((((wipe σ [k0, k1, k2, k3, k4, k5]).set k0 a0).set k1 a1).set k2 a2).set k3 a3).set k4 a4).set k5 a5) L (fun σ2 L2 => tb ⟨SlW σ [k0, k1, k2, k3, k4, k5] P (i + 1), r0, n0, SlW σ [k0, k1, k2, k3, k4, k5] P (i + 1)⟩ σ2 L2)) (hd : ∀ a0 a1 a2 a3 a4 a5 L, P ts.length L → n0 (((((((wipe σ [k0, k1, k2, k3, k4, k5]).set k0 a0).set k1 a1).set k2 a2).set k3 a3).set k4 a4).set k5 a5) L) : ForR (wkL K p xs) gg tb ⟨n0, r0, b0, c0⟩ σ L := by
  obtain ⟨L0, l0, q0⟩ := h0
  refine f_tups (SlW σ [k0, k1, k2, k3, k4, k5] P) ht ⟨L0, l0, rfl, q0⟩ (fun i σ1 L h => hG i L h.2) ?_ ?_
  · rintro i r t σ1 L hi m1 ⟨hσ, hP⟩
    obtain ⟨a0, a1, a2, a3, a4, a5, rfl⟩ := unw6 hσ
    exact hs i r t a0 a1 a2 a3 a4 a5 L hi m1 hP
  · rintro σ1 L ⟨hσ, hP⟩
    obtain ⟨a0, a1, a2, a3, a4, a5, rfl⟩ := unw6 hσ
    exact hd a0 a1 a2 a3 a4 a5 L hP
theorem unw7 {σ σ1 : St} {k0 k1 k2 k3 k4 k5 k6 : Nat} (h : wipe σ1 [k0, k1, k2, k3, k4, k5, k6] = wipe σ [k0, k1, k2, k3, k4, k5, k6]) : ∃ a0 a1 a2 a3 a4 a5 a6, σ1 = ((((((((wipe σ [k0, k1, k2, k3, k4, k5, k6]).set k0 a0).set k1 a1).set k2 a2).set k3 a3).set k4 a4).set k5 a5).set k6 a6) := by
  generalize wipe σ [k0, k1, k2, k3, k4, k5, k6] = τ at h ⊢
  obtain ⟨a0, h⟩ := unset h
  obtain ⟨a1, h⟩ := unset h
  obtain ⟨a2, h⟩ := unset h
  obtain ⟨a3, h⟩ := unset h
  obtain ⟨a4, h⟩ := unset h
  obtain ⟨a5, h⟩ := unset h
  obtain ⟨a6, h⟩ := unset h
  exact ⟨a0, a1, a2, a3, a4, a5, a6, h⟩
def SlV7 (σ : St) (k0 k1 k2 k3 k4 k5 k6 : Nat) (P : Nat → Option V → Option V → Option V → Option V → Option V → Option V → Option V → Lg → Prop) : Nat → St → Lg → Prop := fun i σ1 L => ∃ a0 a1 a2 a3 a4 a5 a6, σ1 = ((((((((wipe σ [k0, k1, k2, k3, k4, k5, k6]).set k0 a0).set k1 a1).set k2 a2).set k3 a3).set k4 a4).set k5 a5).set k6 a6) ∧ P i a0 a1 a2 a3 a4 a5 a6 L
theorem frv_7 {k0 k1 k2 k3 k4 k5 k6 : Nat} (P : Nat → Option V → Option V → Option V → Option V → Option V → Option V → Option V → Lg → Prop) (h0 : Wk (SlV7 σ k0 k1 k2 k3 k4 k5 k6 P 0 σ) L) (hs : ∀ (i : Nat) a0 a1 a2 a3 a4 a5 a6 L, i < n → P i a0 a1 a2 a3 a4 a5 a6 L → gg (.int (i : Int)) ((((((((wipe σ [k0, k1, k2, k3, k4, k5, k6]).set k0 a0).set k1 a1).set k2 a2).set k3 a3).set k4 a4).set k5 a5).set k6 a6) L (fun σ2 L2 => tb ⟨SlV7 σ k0 k1 k2 k3 k4 k5 k6 P (i + 1), r0, n0, SlV7 σ k0 k1 k2 k3 k4 k5 k6 P (i + 1)⟩ σ2 L2)) (hd : ∀ a0 a1 a2 a3 a4 a5 a6 L, P n a0 a1 a2 a3 a4 a5 a6 L → n0 ((((((((wipe σ [k0, k1, k2, k3, k4, k5, k6]).set k0 a0).set k1 a1).set k2 a2).set k3 a3).set k4 a4).set k5 a5).set k6 a6) L) : ForR (wkR 0 n) gg tb ⟨n0, r0, b0, c0⟩ σ L := by
  refine f_range0 (SlV7 σ k0 k1 k2 k3 k4 k5 k6 P) h0 ?_ ?_
  · rintro i σ1 L hi ⟨a0, a1, a2, a3, a4, a5, a6, rfl, hP⟩
    exact hs i a0 a1 a2 a3 a4 a5 a6 L hi hP
  · rintro σ1 L ⟨a0, a1, a2, a3, a4, a5, a6, rfl, hP⟩
    exact hd a0 a1 a2 a3 a4 a5 a6 L hP
theorem frnv_7 {k0 k1 k2 k3 k4 k5 k6 : Nat} (P : Nat → Option V → Option V → Option V → Option V → Option V → Option V → Option V → Lg → Prop) (h0 : Wk (SlV7 σ k0 k1 k2 k3 k4 k5 k6 P 0 σ) L) (hs : ∀ (i : Nat) a0 a1 a2 a3 a4 a5 a6 L, i < n → P i a0 a1 a2 a3 a4 a5 a6 L → gg (.int (lo + i)) ((((((((wipe σ [k0, k1, k2, k3, k4, k5, k6]).set k0 a0).set k1 a1).set k2 a2).set k3 a3).set k4 a4).set k5 a5).set k6 a6) L (fun σ2 L2 => tb ⟨SlV7 σ k0 k1 k2 k3 k4 k5 k6 P (i + 1), r0, n0, SlV7 σ k0 k1 k2 k3 k4 k5 k6 P (i + 1)⟩ σ2 L2)) (hd : ∀ a0 a1 a2 a3 a4 a5 a6 L, P n a0 a1 a2 a3 a4 a5 a6 L → n0 ((((((((wipe σ [k0, k1, k2, k3, k4, k5, k6]).set k0 a0).set k1 a1).set k2 a2).set k3 a3).set k4 a4).set k5 a5).set k6 a6) L) : ForR (wkR lo n) gg tb ⟨n0, r0, b0, c0⟩ σ L := by
  refine f_range (SlV7 σ k0 k1 k2 k3 k4 k5 k6 P) h0 ?_ ?_
  · rintro i σ1 L hi ⟨a0, a1, a2, a3, a4, a5, a6, rfl, hP⟩
    exact hs i a0 a1 a2 a3 a4 a5 a6 L hi hP
  · rintro σ1 L ⟨a0, a1, a2, a3, a4, a5, a6, rfl, hP⟩
    exact hd a0 a1 a2 a3 a4 a5 a6 L hP
theorem fiv_7 {k0 k1 k2 k3 k4 k5 k6 : Nat} (P : Nat → Option V → Option V → Option V → Option V → Option V → Option V → Option V → Lg → Prop) (hv : IntsV xs ns) (h0 : Wk (SlV7 σ k0 k1 k2 k3 k4 k5 k6 P 0 σ) L) (hG : ∀ i a0 a1 a2 a3 a4 a5 a6 L, P i a0 a1 a2 a3 a4 a5 a6 L → IsL K L p xs) (hs : ∀ (i : Nat) (x : Int) a0 a1 a2 a3 a4 a5 a6 L, ns[i]? = some x → P i a0 a1 a2 a3 a4 a5 a6 L → gg (.int x) ((((((((wipe σ [k0, k1, k2, k3, k4, k5, k6]).set k0 a0).set k1 a1).set k2 a2).set k3 a3).set k4 a4).set k5 a5).set k6 a6) L (fun σ2 L2 => tb ⟨SlV7 σ k0 k1 k2 k3 k4 k5 k6 P (i + 1), r0, n0, SlV7 σ k0 k1 k2 k3 k4 k5 k6 P (i + 1)⟩ σ2 L2)) (hd : ∀ a0 a1 a2 a3 a4 a5 a6 L, P ns.length a0 a1 a2 a3 a4 a5 a6 L → n0 ((((((((wipe σ [k0, k1, k2, k3, k4, k5, k6]).set k0 a0).set k1 a1).set k2 a2).set k3 a3).set k4 a4).set k5 a5).set k6 a6) L) : ForR (wkL K p xs) gg tb ⟨n0, r0, b0, c0⟩ σ L := by
  refine f_ints (SlV7 σ k0 k1 k2 k3 k4 k5 k6 P) hv h0 (fun i σ1 L ⟨a0, a1, a2, a3, a4, a5, a6, _, h⟩ => hG i a0 a1 a2 a3 a4 a5 a6 L h) ?_ ?_
  · rintro i x σ1 L hi ⟨a0, a1, a2, a3, a4, a5, a6, rfl, hP⟩
    exact hs i x a0 a1 a2 a3 a4 a5 a6 L hi hP
  · rintro σ1 L ⟨a0, a1, a2, a3, a4, a5, a6, rfl, hP⟩
    exact hd a0 a1 a2 a3 a4 a5 a6 L hP
theorem fvv_7 {k0 k1 k2 k3 k4 k5 k6 : Nat} (P : Nat → Option V → Option V → Option V → Option V → Option V → Option V → Option V → Lg → Prop) (h0 : Wk (SlV7 σ k0 k1 k2 k3 k4 k5 k6 P 0 σ) L) (hG : ∀ i a0 a1 a2 a3 a4 a5 a6 L, P i a0 a1 a2 a3 a4 a5 a6 L → IsL K L p (as.map V.ref)) (hs : ∀ (i : Nat) a0 a1 a2 a3 a4 a5 a6 L, i < as.length → P i a0 a1 a2 a3 a4 a5 a6 L → gg (.ref (adrAt as (i : Int))) ((((((((wipe σ [k0, k1, k2, k3, k4, k5, k6]).set k0 a0).set k1 a1).set k2 a2).set k3 a3).set k4 a4).set k5 a5).set k6 a6) L (fun σ2 L2 => tb ⟨SlV7 σ k0 k1 k2 k3 k4 k5 k6 P (i + 1), r0, n0, SlV7 σ k0 k1 k2 k3 k4 k5 k6 P (i + 1)⟩ σ2 L2)) (hd : ∀ a0 a1 a2 a3 a4 a5 a6 L, P as.length a0 a1 a2 a3 a4 a5 a6 L → n0 ((((((((wipe σ [k0, k1, k2, k3, k4, k5, k6]).set k0 a0).set k1 a1).set k2 a2).set k3 a3).set k4 a4).set k5 a5).set k6 a6) L) : ForR (wkL K p (as.map V.ref)) gg tb ⟨n0, r0, b0, c0⟩ σ L := by
  refine f_refs (SlV7 σ k0 k1 k2 k3 k4 k5 k6 P) h0 (fun i σ1 L ⟨a0, a1, a2, a3, a4, a5, a6, _, h⟩ => hG i a0 a1 a2 a3 a4 a5 a6 L h) ?_ ?_
  · rintro i σ1 L hi ⟨a0, a1, a2, a3, a4, a5, a6, rfl, hP⟩
    exact hs i a0 a1 a2 a3 a4 a5 a6 L hi hP
  · rintro σ1 L ⟨a0, a1, a2, a3, a4, a5, a6, rfl, hP⟩
    exact hd a0 a1 a2 a3 a4 a5 a6 L hP
theorem fpv_7 {k0 k1 k2 k3 k4 k5 k6 : Nat} (P : Nat → Option V → Option V → Option V → Option V → Option V → Option V → Option V → Lg → Prop) (ht : TelAll c xs (ws.map VM.dP)) (h0 : Wk (SlV7 σ k0 k1 k2 k3 k4 k5 k6 P 0 σ) L) (hG : ∀ i a0 a1 a2 a3 a4 a5 a6 L, P i a0 a1 a2 a3 a4 a5 a6 L → IsL K L p xs) (hs : ∀ (i : Nat) b r t a a0 a1 a2 a3 a4 a5 a6 L, ws[i]? = some (b, r) → (t, HO.tup [.int b, .ref a]) ∈ c → (a, HO.lst (r.map V.int)) ∈ c → P i a0 a1 a2 a3 a4 a5 a6 L → gg (.ref t) ((((((((wipe σ [k0, k1, k2, k3, k4, k5, k6]).set k0 a0).set k1 a1).set k2 a2).set k3 a3).set k4 a4).set k5 a5).set k6 a6) L (fun σ2 L2 => tb ⟨SlV7 σ k0 k1 k2 k3 k4 k5 k6 P (i + 1), r0, n0, SlV7 σ k0 k1 k2 k3 k4 k5 k6 P (i + 1)⟩ σ2 L2)) (hd : ∀ a0 a1 a2 a3 a4 a5 a6 L, P ws.length a0 a1 a2 a3 a4 a5 a6 L → n0 ((((((((wipe σ [k0, k1, k2, k3, k4, k5, k6]).set k0 a0).set k1 a1).set k2 a2).set k3 a3).set k4 a4).set k5 a5).set k6 a6) L) : ForR (wkL K p xs) gg tb ⟨n0, r0, b0, c0⟩ σ L := by
  refine f_pairs (SlV7 σ k0 k1 k2 k3 k4 k5 k6 P) ht h0 (fun i σ1 L ⟨a0, a1, a2, a3, a4, a5, a6, _, h⟩ => hG i a0 a1 a2 a3 a4 a5 a6 L h) ?_ ?_
  · rintro i b r t a σ1 L hi m1 m2 ⟨a0, a1, a2, a3, a4, a5, a6, rfl, hP⟩
    exact hs i b r t a a0 a1 a2 a3 a4 a5 a6 L hi m1 m2 hP
  · rintro σ1 L ⟨a0, a1, a2, a3, a4, a5, a6, rfl, hP⟩
    exact hd a0 a1 a2 a3 a4 a5 a6 L hP
theorem fqv_7 {k0 k1 k2 k3 k4 k5 k6 : Nat} (P : Nat → Option V → Option V → Option V → Option V → Option V → Option V → Option V → Lg → Prop) (ht : TelAll c xs (ts.map dT)) (h0 : Wk (SlV7 σ k0 k1 k2 k3 k4 k5 k6 P 0 σ) L) (hG : ∀ i a0 a1 a2 a3 a4 a5 a6 L, P i a0 a1 a2 a3 a4 a5 a6 L → IsL K L p xs) (hs : ∀ (i : Nat) r t a0 a1 a2 a3 a4 a5 a6 L, ts[i]? = some r → (t, HO.tup (r.map V.int)) ∈ c → P i a0 a1 a2 a3 a4 a5 a6 L → gg (.ref t) ((((((((wipe σ [k0, k1, k2, k3, k4, k5, k6]).set k0 a0).set k1 a1).set k2 a2).set k3 a3).set k4 a4).set k5 a5).set k6 a6) L (fun σ2 L2 => tb ⟨SlV7 σ k0 k1 k2 k3 k4 k5 k6 P (i + 1), r0, n0, SlV7 σ k0 k1 k2 k3 k4 k5 k6 P (i + 1)⟩ σ2 L2)) (hd : ∀ a0 a1 a2 a3 a4 a5 a6 L, P ts.length a0 a1 a2 a3 a4 a5 a6 L → n0 ((((((((wipe σ [k0, k1, k2, k3, k4, k5, k6]).set k0 a0).set k1 a1).set k2 a2).set k3 a3).set k4 a4).set k5 a5).set k6 a6) L) : ForR (wkL K p xs) gg tb ⟨n0, r0, b0, c0⟩ σ L := by
  refine f_tups (SlV7 σ k0 k1 k2 k3 k4 k5 k6 P) ht h0 (fun i σ1 L ⟨a0, a1, a2, a3, a4, a5, a6, _, h⟩ => hG i a0 a1 a2 a3 a4 a5 a6 L h) ?_ ?_
  · rintro i r t σ1 L hi m1 ⟨a0, a1, a2, a3, a4, a5, a6, rfl, hP⟩
    exact hs i r t a0 a1 a2 a3 a4 a5 a6 L hi m1 hP
  · rintro σ1 L ⟨a0, a1, a2, a3, a4, a5, a6, rfl, hP⟩
    exact hd a0 a1 a2 a3 a4 a5 a6 L hP
theorem fr_7 {k0 k1 k2 k3 k4 k5 k6 : Nat} (P : Nat → Lg → Prop) (h0 : Wk (P 0) L) (hs : ∀ (i : Nat) a0 a1 a2 a3 a4 a5 a6 L, i < n → P i L → gg (.int (i : Int)) ((((((((wipe σ [k0, k1, k2, k3, k4, k5, k6]).set k0 a0).set k1 a1).set k2 a2).set k3 a3).set k4 a4).set k5 a5).set k6 a6) L (fun σ2 L2 => tb ⟨SlW σ [k0, k1, k2, k3, k4, k5, k6] P (i + 1), r0, n0, SlW σ [k0, k1, k2, k3, k4, k5, k6] P (i + 1)⟩ σ2 L2)) (hd : ∀ a0 a1 a2 a3 a4 a5 a6 L, P n L → n0 ((((((((wipe σ [k0, k1, k2, k3, k4, k5, k6]).set k0 a0).set k1 a1).set k2 a2).set k3 a3).set k4 a4).set k5 a5).set k6 a6) L) : ForR (wkR 0 n) gg tb ⟨n0, r0, b0, c0⟩ σ L := by
  obtain ⟨L0, l0, q0⟩ := h0
  refine f_range0 (SlW σ [k0, k1, k2, k3, k4, k5, k6] P) ⟨L0, l0, rfl, q0⟩ ?_ ?_
  · rintro i σ1 L hi ⟨hσ, hP⟩
    obtain ⟨a0, a1, a2, a3, a4, a5, a6, rfl⟩ := unw7 hσ
    exact hs i a0 a1 a2 a3 a4 a5 a6 L hi hP
  · rintro σ1 L ⟨hσ, hP⟩
    obtain ⟨a0, a1, a2, a3, a4, a5, a6, rfl⟩ := unw7 hσ
    exact hd a0 a1 a2 a3 a4 a5 a6 L hP
theorem frn_7 {k0 k1 k2 k3 k4 k5 k6 : Nat} (P : Nat → Lg → Prop) (h0 : Wk (P 0) L) (hs : ∀ (i : Nat) a0 a1 a2 a3 a4 a5 a6 L, i < n → P i L → gg (.int (lo + i)) ((((((((wipe σ [k0, k1, k2, k3, k4, k5, k6]).set k0 a0).set k1 a1).set k2 a2).set k3 a3).set k4 a4).set k5 a5).set k6 a6) L (fun σ2 L2 => tb ⟨SlW σ [k0, k1, k2, k3, k4, k5, k6] P (i + 1), r0, n0, SlW σ [k0, k1, k2, k3, k4, k5, k6] P (i + 1)⟩ σ2 L2)) (hd : ∀ a0 a1 a2 a3 a4 a5 a6 L, P n L → n0 ((((((((wipe σ [k0, k1, k2, k3, k4, k5, k6]).set k0 a0).set k1 a1).set k2 a2).set k3 a3).set k4 a4).set k5 a5).set k6 a6) L) : ForR (wkR lo n) gg tb ⟨n0, r0, b0, c0⟩ σ L := by
  obtain ⟨L0, l0, q0⟩ := h0
  refine f_range (SlW σ [k0, k1, k2, k3, k4, k5, k6] P) ⟨L0, l0, rfl, q0⟩ ?_ ?_
  · rintro i σ1 L hi ⟨hσ, hP⟩
    obtain ⟨a0, a1, a2, a3, a4, a5, a6, rfl⟩ := unw7 hσ
    exact hs i a0 a1 a2 a3 a4 a5 a6 L hi hP
  · rintro σ1 L ⟨hσ, hP⟩
    obtain ⟨a0, a1, a2, a3, a4, a5, a6, rfl⟩ := unw7 hσ
    exact hd a0 a1 a2 a3 a4 a5 a6 L hP
theorem fi_7 {k0 k1 k2 k3 k4 k5 k6 : Nat} (P : Nat → Lg → Prop) (hv : IntsV xs ns) (h0 : Wk (P 0) L) (hG : ∀ i L, P i L → IsL K L p xs) (hs : ∀ (i : Nat) (x : Int) a0 a1 a2 a3 a4 a5 a6 L, ns[i]? = some x → P i L → gg (.int x) ((((((((wipe σ [k0, k1, k2, k3, k4, k5, k6]).set k0 a0).set k1 a1).set k2 a2).set k3 a3).set k4 a4).set k5 a5).set k6 a6) L (fun σ2 L2 => tb ⟨SlW σ [k0, k1, k2, k3, k4, k5, k6] P (i + 1), r0, n0, SlW σ [k0, k1, k2, k3, k4, k5, k6] P (i + 1)⟩ σ2 L2)) (hd : ∀ a0 a1 a2 a3 a4 a5 a6 L, P ns.length L → n0 ((((((((wipe σ [k0, k1, k2, k3, k4, k5, k6]).set k0 a0).set k1 a1).set k2 a2).set k3 a3).set k4 a4).set k5 a5).set k6 a6) L) : ForR (wkL K p xs) gg tb ⟨n0, r0, b0, c0⟩ σ L := by
  obtain ⟨L0, l0, q0⟩ := h0
  refine f_ints (SlW σ [k0, k1, k2, k3, k4, k5, k6] P) hv ⟨L0, l0, rfl, q0⟩ (fun i σ1 L h => hG i L h.2) ?_ ?_
  · rintro i x σ1 L hi ⟨hσ, hP⟩
    obtain ⟨a0, a1, a2, a3, a4, a5, a6, rfl⟩ := unw7 hσ
    exact hs i x a0 a1 a2 a3 a4 a5 a6 L hi hP
  · rintro σ1 L ⟨hσ, hP⟩
    obtain ⟨a0, a1, a2, a3, a4, a5, a6, rfl⟩ := unw7 hσ
    exact hd a0 a1 a2 a3 a4 a5 a6 L hP
theorem fv_7 {k0 k1 k2 k3 k4 k5 k6 : Nat} (P : Nat → Lg → Prop) (h0 : Wk (P 0) L) (hG : ∀ i L, P i L → IsL K L p (as.map V.ref)) (hs : ∀ (i : Nat) a0 a1 a2 a3 a4 a5 a6 L, i < as.length → P i L → gg (.ref (adrAt as (i : Int))) ((((((((wipe σ [k0, k1, k2, k3, k4, k5, k6]).set k0 a0).set k1 a1).set k2 a2).set k3 a3).set k4 a4).set k5 a5).set k6 a6) L (fun σ2 L2 => tb ⟨SlW σ [k0, k1, k2, k3, k4, k5, k6] P (i + 1), r0, n0, SlW σ [k0, k1, k2, k3, k4, k5, k6] P (i + 1)⟩ σ2 L2)) (hd : ∀ a0 a1 a2 a3 a4 a5 a6 L, P as.length L → n0 ((((((((wipe σ [k0, k1, k2, k3, k4, k5, k6]).set k0 a0).set k1 a1).set k2 a2).set k3 a3).set k4 a4).set k5 a5).set k6 a6) L) : ForR (wkL K p (as.map V.ref)) gg tb ⟨n0, r0, b0, c0⟩ σ L := by
  obtain ⟨L0, l0, q0⟩ := h0
  refine f_refs (SlW σ [k0, k1, k2, k3, k4, k5, k6] P) ⟨L0, l0, rfl, q0⟩ (fun i σ1 L h => hG i L h.2) ?_ ?_
  · rintro i σ1 L hi ⟨hσ, hP⟩
    obtain ⟨a0, a1, a2, a3, a4, a5, a6, rfl⟩ := unw7 hσ
    exact hs i a0 a1 a2 a3 a4 a5 a6 L hi hP
  · rintro σ1 L ⟨hσ, hP⟩
    obtain ⟨a0, a1, a2, a3, a4, a5, a6, rfl⟩ := unw7 hσ
    exact hd a0 a1 a2 a3 a4 a5 a6 L hP
theorem fl_7 {k0 k1 k2 k3 k4 k5 k6 : Nat} (P : Nat → Lg → Prop) (h0 : Wk (P 0) L) (hG : ∀ i L, P i L → IsL K L p xs) (hs : ∀ (i : Nat) (x : V) a0 a1 a2 a3 a4 a5 a6 L, xs[i]? = some x → P i L → gg x ((((((((wipe σ [k0, k1, k2, k3, k4, k5, k6]).set k0 a0).set k1 a1).set k2 a2).set k3 a3).set k4 a4).set k5 a5).set k6 a6) L (fun σ2 L2 => tb ⟨SlW σ [k0, k1, k2, k3, k4, k5, k6] P (i + 1), r0, n0, SlW σ [k0, k1, k2, k3, k4, k5, k6] P (i + 1)⟩ σ2 L2)) (hd : ∀ a0 a1 a2 a3 a4 a5 a6 L, P xs.length L → n0 ((((((((wipe σ [k0, k1, k2, k3, k4, k5, k6]).set k0 a0).set k1 a1).set k2 a2).set k3 a3).set k4 a4).set k5 a5).set k6 a6) L) : ForR (wkL K p xs) gg tb ⟨n0, r0, b0, c0⟩ σ L := by
  obtain ⟨L0, l0, q0⟩ := h0
  refine f_list (SlW σ [k0, k1, k2, k3, k4, k5, k6] P) ⟨L0, l0, rfl, q0⟩ (fun i σ1 L h => hG i L h.2) ?_ ?_
  · rintro i x σ1 L hi ⟨hσ, hP⟩
    obtain ⟨a0, a1, a2, a3, a4, a5, a6, rfl⟩ := unw7 hσ
    exact hs i x a0 a1 a2 a3 a4 a5 a6 L hi hP
  · rintro σ1 L ⟨hσ, hP⟩
    obtain ⟨a0, a1, a2, a3, a4, a5, a6, rfl⟩ := unw7 hσ
    exact hd a0 a1 a2 a3 a4 a5 a6 L hP
theorem ft_7 {k0 k1 k2 k3 k4 k5 k6 : Nat} (P : Nat → Lg → Prop) (h0 : Wk (P 0) L) (hG : ∀ i L, P i L → IsT K L p xs) (hs : ∀ (i : Nat) (x : V) a0 a1 a2 a3 a4 a5 a6 L, xs[i]? = some x → P i L → gg x ((((((((wipe σ [k0, k1, k2, k3, k4, k5, k6]).set k0 a0).set k1 a1).set k2 a2).set k3 a3).set k4 a4).set k5 a5).set k6 a6) L (fun σ2 L2 => tb ⟨SlW σ [k0, k1, k2, k3, k4, k5, k6] P (i + 1), r0, n0, SlW σ [k0, k1, k2, k3, k4, k5, k6] P (i + 1)⟩ σ2 L2)) (hd : ∀ a0 a1 a2 a3 a4 a5 a6 L, P xs.length L → n0 ((((((((wipe σ [k0, k1, k2, k3, k4, k5, k6]).set k0 a0).set k1 a1).set k2 a2).set k3 a3).set k4 a4).set k5 a5).set k6 a6) L) : ForR (wkT K p xs) gg tb ⟨n0, r0, b0, c0⟩ σ L := by
  obtain ⟨L0, l0, q0⟩ := h0
  refine f_tup (SlW σ [k0, k1, k2, k3, k4, k5, k6] P) ⟨L0, l0, rfl, q0⟩ (fun i σ1 L h => hG i L h.2) ?_ ?_
  · rintro i x σ1 L hi ⟨hσ, hP⟩
    obtain ⟨a0, a1, a2, a3, a4, a5, a6, rfl⟩ := unw7 hσ
    exact hs i x a0 a1 a2 a3 a4 a5 a6 L hi hP
  · rintro σ1 L ⟨hσ, hP⟩
    obtain ⟨a0, a1, a2, a3, a4, a5, a6, rfl⟩ := unw7 hσ
    exact hd a0 a1 a2 a3 a4 a5 a6 L hP
theorem fp_7 {k0 k1 k2 k3 k4 k5 k6 : Nat} (P : Nat → Lg → Prop) (ht : TelAll c xs (ws.map VM.dP)) (h0 : Wk (P 0) L) (hG : ∀ i L, P i L → IsL K L p xs) (hs : ∀ (i : Nat) b r t a a0 a1 a2 a3 a4 a5 a6 L, ws[i]? = some (b, r) → (t, HO.tup [.int b, .ref a]) ∈ c → (a, HO.lst (r.map V.int)) ∈ c → P i L → gg (.ref t) ((((((((wipe σ [k0, k1, k2, k3, k4, k5, k6]).set k0 a0).set k1 a1).set k2 a2).set k3 a3).set k4 a4).set k5 a5).set k6 a6) L (fun σ2 L2 => tb ⟨SlW σ [k0, k1, k2, k3, k4, k5, k6] P (i + 1), r0, n0, SlW σ [k0, k1, k2, k3, k4, k5, k6] P (i + 1)⟩ σ2 L2)) (hd : ∀ a0 a1 a2 a3 a4 a5 a6 L, P ws.length L → n0 ((((((((wipe σ [k0, k1, k2, k3, k4, k5, k6]).set k0 a0).set k1 a1).set k2 a2).set k3 a3).set k4 a4).set k5 a5).set k6 a6) L) : ForR (wkL K p xs) gg tb ⟨n0, r0, b0, c0⟩ σ L := by
  obtain ⟨L0, l0, q0⟩ := h0
  refine f_pairs (SlW σ [k0, k1, k2, k3, k4, k5, k6] P) ht ⟨L0, l0, rfl, q0⟩ (fun i σ1 L h => hG i L h.2) ?_ ?_
  · rintro i b r t a σ1 L hi m1 m2 ⟨hσ, hP⟩
    obtain ⟨a0, a1, a2, a3, a4, a5, a6, rfl⟩ := unw7 hσ
    exact hs i b r t a a0 a1 a2 a3 a4 a5 a6 L hi m1 m2 hP
  · rintro σ1 L ⟨hσ, hP⟩
    obtain ⟨a0, a1, a2, a3, a4, a5, a6, rfl⟩ := unw7 hσ
    exact hd a0 a1 a2 a3 a4 a5 a6 L hP
theorem fit_7 {k0 k1 k2 k3 k4 k5 k6 : Nat} (P : Nat → Lg → Prop) (hv : IntsV xs ns) (h0 : Wk (P 0) L) (hG : ∀ i L, P i L → IsT K L p xs) (hs : ∀ (i : Nat) (x : Int) a0 a1 a2 a3 a4 a5 a6 L, ns[i]? = some x → P i L → gg (.int x) ((((((((wipe σ [k0, k1, k2, k3, k4, k5, k6]).set k0 a0).set k1 a1).set k2 a2).set k3 a3).set k4 a4).set k5 a5).set k6 a6) L (fun σ2 L2 => tb ⟨SlW σ [k0, k1, k2, k3, k4, k5, k6] P (i + 1), r0, n0, SlW σ [k0, k1, k2, k3, k4, k5, k6] P (i + 1)⟩ σ2 L2)) (hd : ∀ a0 a1 a2 a3 a4 a5 a6 L, P ns.length L → n0 ((((((((wipe σ [k0, k1, k2, k3, k4, k5, k6]).set k0 a0).set k1 a1).set k2 a2).set k3 a3).set k4 a4).set k5 a5).set k6 a6) L) : ForR (wkT K p xs) gg tb ⟨n0, r0, b0, c0⟩ σ L := by
  obtain ⟨L0, l0, q0⟩ := h0
  refine f_intsT (SlW σ [k0, k1, k2, k3, k4, k5, k6] P) hv ⟨L0, l0, rfl, q0⟩ (fun i σ1 L h => hG i L h.2) ?_ ?_
  · rintro i x σ1 L hi ⟨hσ, hP⟩
    obtain ⟨a0, a1, a2, a3, a4, a5, a6, rfl⟩ := unw7 hσ
    exact hs i x a0 a1 a2 a3 a4 a5 a6 L hi hP
  · rintro σ1 L ⟨hσ, hP⟩
    obtain ⟨a0, a1, a2, a3, a4, a5, a6, rfl⟩ := unw7 hσ
    exact hd a0 a1 a2 a3 a4 a5 a6 L hP
theorem fq_7 {k0 k1 k2 k3 k4 k5 k6 : Nat} (P : Nat → Lg → Prop) (ht : TelAll c xs (ts.map dT)) (h0 : Wk (P 0) L) (hG : ∀ i L, P i L → IsL K L p xs) (hs : ∀ (i : Nat) r t a0 a1 a2 a3 a4 a5 a6 L, ts[i]? = some r → (t, HO.tup (r.map V.int)) ∈ c → P i L → gg (.ref t) ((((((((wipe σ [k0, k1, k2, k3, k4, k5, k6]).set k0 a0).set k1 a1).set k2 a2).set k3 a3).set k4 a4).set k5 a5).set k6 a6) L (fun σ2 L2 => tb ⟨SlW σ [k0, k1, k2, k3, k4, k5, k6] P (i + 1), r0, n0, SlW σ [k0, k1, k2, k3, k4, k5, k6] P (i + 1)⟩ σ2 L2)) (hd : ∀ a0 a1 a2 a3 a4 a5 a6 L, P ts.length L → n0 ((((((((wipe σ [k0, k1, k2, k3, k4, k5, k6]).set k0 a0).set k1 a1).set k2 a2).set k3 a3).set k4 a4).set k5 a5).set k6 a6) L) : ForR (wkL K p xs) gg tb ⟨n0, r0, b0, c0⟩ σ L := by
  obtain ⟨L0, l0, q0⟩ := h0
  refine f_tups (SlW σ [k0, k1, k2, k3, k4, k5, k6] P) ht ⟨L0, l0, rfl, q0⟩ (fun i σ1 L h => hG i L h.2) ?_ ?_
  · rintro i r t σ1 L hi m1 ⟨hσ, hP⟩
    obtain ⟨a0, a1, a2, a3, a4, a5, a6, rfl⟩ := unw7 hσ
    exact hs i r t a0 a1 a2 a3 a4 a5 a6 L hi m1 hP
  · rintro σ1 L ⟨hσ, hP⟩
    obtain ⟨a0, a1, a2, a3, a4, a5, a6, rfl⟩ := unw7 hσ
    exact hd a0 a1 a2 a3 a4 a5 a6 L hP
end
end VM

end

section
namespace VM
open PySem PySem.Spec L2
open PyProof.Rows hiding St

theorem Wk.flat {P : Lg → Prop} {L : Lg} (h : Wk P L) : Wk (Wk P) L := .go h
theorem wk_dec {c : Prop} {d : Decidable c} {Q : V → Lg → Prop} {L : Lg} (h : c) (k : Wk (Q (.bl true)) L) : Wk (Q (.bl (@decide c d))) L := by rw [decide_eq_true h]; exact k
/-! ### cuts -/
section
variable {α : Type} {xs : List α} {a b : Int}
theorem sIx_pos {n d : Nat} {v : Int} (h : 0 ≤ v) : HT.sIx n d (some v) = min v.toNat n := by
  show (if v < 0 then (v + (n : Int)).toNat else min v.toNat n) = min v.toNat n
  rw [if_neg (by omega)]
theorem cutG_hi (h : 0 ≤ b) : cutG xs none (some b) = xs.take b.toNat := by
  unfold cutG
  rw [sIx_pos h]
  simp only [HT.sIx_none, List.drop_zero, Nat.sub_zero]
  rw [← List.take_eq_take_min]
theorem cutG_lo (h : 0 ≤ a) : cutG xs (some a) none = xs.drop a.toNat := by
  unfold cutG
  rw [sIx_pos h]
  simp only [HT.sIx_none]
  by_cases e : a.toNat ≤ xs.length
  · rw [Nat.min_eq_left e, List.take_of_length_le (by simp)]
  · rw [Nat.min_eq_right (by omega), List.drop_eq_nil_of_le (Nat.le_refl _), List.drop_eq_nil_of_le (by omega)]
    simp
theorem cutG_lohi (ha : 0 ≤ a) (hb : 0 ≤ b) : cutG xs (some a) (some b) = (xs.drop a.toNat).take (b.toNat - a.toNat) := by
  unfold cutG
  rw [sIx_pos ha, sIx_pos hb]
  by_cases e : a.toNat ≤ xs.length
  · rw [Nat.min_eq_left e]
    by_cases e2 : b.toNat ≤ xs.length
    · rw [Nat.min_eq_left e2]
    · rw [Nat.min_eq_right (by omega), List.take_of_length_le (by simp), List.take_of_length_le (by simp; omega)]
  · rw [Nat.min_eq_right (by omega : xs.length ≤ a.toNat), List.drop_eq_nil_of_le (Nat.le_refl _), List.drop_eq_nil_of_le (by omega)]
    simp
theorem adrAt_take {as : List Addr} {n : Nat} {j : Int} (h : j.toNat < n) : adrAt (as.take n) j = adrAt as j := by
  unfold adrAt
  rw [List.getD_eq_getElem?_getD, List.getD_eq_getElem?_getD, List.getElem?_take, if_pos h]
end
theorem getD_all {P : Int → Prop} {l : List Int} (h0 : P 0) (h : ∀ x ∈ l, P x) (n : Nat) : P (l.getD n 0) := by
  rw [List.getD_eq_getElem?_getD]
  cases e : l[n]? with
  | none => exact h0
  | some x => exact h x (List.mem_of_getElem? e)
def Bnd (rows : List (List Int)) : Prop := ∀ r ∈ rows, ∀ x ∈ r, -10000000000000000000000000000000000000000 < x ∧ x < 10000000000000000000000000000000000000000
theorem Bnd.put {R : List (List Int)} {j v : Int} {n : Nat} (h : Bnd R) (hj : 0 ≤ j) (hl : j < R.length) (hv : -10000000000000000000000000000000000000000 < v ∧ v < 10000000000000000000000000000000000000000) : Bnd (putAt R j n v) := by
  intro r hr x hx
  rcases List.mem_or_eq_of_mem_set hr with hr | rfl
  · exact h r hr x hx
  · rcases List.mem_or_eq_of_mem_set hx with hx | rfl
    · exact h _ (rowAt_mem hj hl) x hx
    · exact hv
theorem Bnd.set {R : List (List Int)} {j : Nat} {r : List Int} (h : Bnd R) (hr : ∀ x ∈ r, -10000000000000000000000000000000000000000 < x ∧ x < 10000000000000000000000000000000000000000) : Bnd (R.set j r) := by
  intro r' hr' x hx
  rcases List.mem_or_eq_of_mem_set hr' with h' | rfl
  · exact h r' h' x hx
  · exact hr x hx
theorem set_8 {R : List (List Int)} {j : Nat} {r : List Int} (h : ∀ r ∈ R, r.length = 8) (hr : r.length = 8) : ∀ r' ∈ R.set j r, r'.length = 8 := by
  intro r' hr'
  rcases List.mem_or_eq_of_mem_set hr' with h' | rfl
  · exact h r' h'
  · exact hr
/-! ### a statement's end told once for all its ways -/
def lJoin (t : LTS) : LTS := fun D σ L => ∃ J : St → Lg → Prop, t { D with nx := fun σ' => Wk (J σ') } σ L ∧ ∀ σ' L', J σ' L' → D.nx σ' L'
theorem ls_join {X : Cx} {st : Stmt} {t : LTS} (h : LS X st t) : LS X st (lJoin t) := PS.imp h fun D σ H ⟨L, DL, hL, ⟨J, h1, h2⟩, k⟩ =>
  ⟨L, _, hL, h1, ⟨fun σ' L' H' ⟨L2, l, q⟩ hL' => k.nx _ _ _ (h2 _ _ q) (l _ hL'), k.rt, k.bk, k.ct⟩⟩
theorem s_join {t : LTS} {n0 : St → Lg → Prop} {r0 : LVK} {b0 c0 : St → Lg → Prop} {σ : St} {L : Lg} (J : St → Lg → Prop) (h1 : t ⟨fun σ' => Wk (J σ'), r0, b0, c0⟩ σ L) (h2 : ∀ σ' L', J σ' L' → n0 σ' L') : lJoin t ⟨n0, r0, b0, c0⟩ σ L := ⟨J, h1, h2⟩
theorem s_joinU {t : LTS} {n0 : St → Lg → Prop} {r0 : LVK} {b0 c0 : St → Lg → Prop} {σ : St} {L : Lg} (P : Lg → Prop) (h1 : t ⟨fun τ => Wk (fun L' => τ = σ ∧ P L'), r0, b0, c0⟩ σ L) (h2 : ∀ L', P L' → n0 σ L') : lJoin t ⟨n0, r0, b0, c0⟩ σ L := ⟨_, h1, fun τ L' ⟨e, q⟩ => e ▸ h2 L' q⟩
theorem s_joinS {t : LTS} {n0 : St → Lg → Prop} {r0 : LVK} {b0 c0 : St → Lg → Prop} {σ σ' : St} {L : Lg} (P : Lg → Prop) (h1 : t ⟨fun τ => Wk (fun L' => τ = σ' ∧ P L'), r0, b0, c0⟩ σ L) (h2 : ∀ L', P L' → n0 σ' L') : lJoin t ⟨n0, r0, b0, c0⟩ σ L := ⟨_, h1, fun τ L' ⟨e, q⟩ => e ▸ h2 L' q⟩
/-! ### pulling several chunks -/
inductive Pulls : List Chunk → Lg → Lg → Prop
  | nil {L : Lg} : Pulls [] L L
  | cons {c : Chunk} {cs : List Chunk} {L L1 L2 : Lg} (h : Pull c L L1) (k : Pulls cs L1 L2) : Pulls (c :: cs) L L2
theorem Pull.sw {L L1 L2 : Lg} {c d : Chunk} (h : Pull c L L1) (k : Pull d L1 L2) : ∃ L3, Pull d L L3 ∧ Pull c L3 L2 := by
  induction h generalizing L2 with
  | hd => exact ⟨_, .tl k, .hd⟩
  | tl h ih =>
    cases k with
    | hd => exact ⟨_, .hd, h⟩
    | tl k =>
      obtain ⟨L3, a, b⟩ := ih k
      exact ⟨_, .tl a, .tl b⟩
theorem Pulls.sw {cs : List Chunk} {L L1 L2 : Lg} {d : Chunk} (h : Pulls cs L L1) (k : Pull d L1 L2) : ∃ L3, Pull d L L3 ∧ Pulls cs L3 L2 := by
  induction h generalizing L2 with
  | nil => exact ⟨_, k, .nil⟩
  | cons h _ ih =>
    obtain ⟨L3, a, b⟩ := ih k
    obtain ⟨L4, a', b'⟩ := h.sw a
    exact ⟨L4, a', .cons b' b⟩
theorem Pulls.lic {cs : List Chunk} {L L1 : Lg} (h : Pulls cs L L1) : LicS L (cs.flatten :: L1) := by
  induction h with
  | nil => exact LicS.empty LicS.refl
  | cons h _ ih =>
    refine LicS.trans (LicS.pull h ih) (.of_flat ?_)
    simp
theorem Pull.mem {L L1 : Lg} {c : Chunk} (h : Pull c L L1) : c ∈ L := by
  induction h with
  | hd => exact List.mem_cons_self
  | tl _ ih => exact List.mem_cons_of_mem _ ih
theorem Pull.wr {L L1 : Lg} {A B : Chunk} {p : Addr} {o o' : HO} (h : Pull (A ++ (p, o) :: B) L L1) : ∃ L', Wr p o o' L L' ∧ Pull (A ++ (p, o') :: B) L' L1 := by
  induction h with
  | hd => exact ⟨_, Wr.hd, .hd⟩
  | tl _ ih =>
    obtain ⟨L', w, q⟩ := ih
    exact ⟨_, .tl w, .tl q⟩

/-! ### lists of data, told by a chunk -/
def LdD (c : Chunk) (p : Addr) (ds : List PyData) : Prop := ∃ C xs, c = (p, HO.lst xs) :: C ∧ TelAll C xs ds
/-- of tuples of ints; of pairs of an int and a row -/
def LdT (c : Chunk) (p : Addr) (ts : List (List Int)) : Prop := LdD c p (ts.map dT)
def LdW (c : Chunk) (p : Addr) (ws : List (Int × List Int)) : Prop := LdD c p (ws.map VM.dP)
theorem LdD.nil {p : Addr} : LdD [(p, .lst [])] p [] := ⟨[], [], rfl, .nil⟩
theorem LdT.nil {p : Addr} : LdT [(p, .lst [])] p [] := LdD.nil
theorem LdW.nil {p : Addr} : LdW [(p, .lst [])] p [] := LdD.nil
section
variable {K : PySem.W.Frag} {L L1 L2 : Lg} {c : Chunk} {p t a : Addr} {ds : List PyData} {ts : List (List Int)} {ws : List (Int × List Int)} {v : V} {d : PyData} {cs : List Chunk} {P : Lg → Prop} {Q : LVK} {xs ys : List V} {r : List Int} {n : Int}
theorem LdD.tel (h : LdD c p ds) : Tel c (.ref p) (.list ds) := by
  obtain ⟨C, xs, rfl, t⟩ := h
  exact .lst List.mem_cons_self (t.mono fun x hx => List.mem_cons_of_mem _ hx)
theorem LdT.tel (h : LdT c p ts) : Tel c (.ref p) (dTs ts) := LdD.tel h
theorem LdW.tel (h : LdW c p ws) : Tel c (.ref p) (dW ws) := LdD.tel h
theorem LdT.open_ (h : LdT c p ts) : ∃ xs, (p, HO.lst xs) ∈ c ∧ TelAll c xs (ts.map dT) := by
  obtain ⟨C, xs, rfl, t⟩ := h
  exact ⟨xs, List.mem_cons_self, t.mono fun x hx => List.mem_cons_of_mem _ hx⟩
theorem LdW.open_ (h : LdW c p ws) : ∃ xs, (p, HO.lst xs) ∈ c ∧ TelAll c xs (ws.map VM.dP) := by
  obtain ⟨C, xs, rfl, t⟩ := h
  exact ⟨xs, List.mem_cons_self, t.mono fun x hx => List.mem_cons_of_mem _ hx⟩
theorem LdD.snoc (h : LdD c p ds) (hv : Tel (cs.flatten) v d) (hp : Pulls cs L L1) (hc : Pull c L1 L2) (hz : ds.length < 1000000) (k : ∀ c', LdD c' p (ds ++ [d]) → Wk P (c' :: L2)) : gAppend (.ref p) [v] L (fun _ => Wk P) := by
  obtain ⟨C, xs, rfl, t⟩ := h
  obtain ⟨L3, g1, g2⟩ := hp.sw hc
  obtain ⟨L', w, q⟩ := Pull.wr (A := []) (o' := .lst (xs ++ [v])) g1
  refine s_append w (by rw [t.len]; exact hz) ?_
  obtain ⟨L5, l, z⟩ := k ((p, .lst (xs ++ [v])) :: (cs.flatten ++ C)) ⟨_, _, rfl, TelAll.snoc (hv.mono fun x hx => List.mem_append_left _ hx) (t.mono fun x hx => List.mem_append_right _ hx)⟩
  refine ⟨L5, Lic.trans (LicS.lic ?_) l, z⟩
  refine LicS.trans (LicS.pull q g2.lic) ⟨[], ?_⟩
  simp only [List.flatten_cons, List.cons_append, List.nil_append, List.append_nil, ← List.append_assoc]
  exact List.Perm.cons _ (List.perm_append_comm.append_right _)
theorem s_appT (h : LdT c p ts) (hp : Pull [(t, .tup xs)] L L1) (hc : Pull c L1 L2) (hv : IntsV xs r) (hz : ts.length < 1000000) (k : ∀ c', LdT c' p (ts ++ [r]) → Wk P (c' :: L2)) : gAppend (.ref p) [.ref t] L (fun _ => Wk P) := by
  have e := hv.eq
  subst e
  refine LdD.snoc (d := dT r) (cs := [[(t, .tup (r.map V.int))]]) h (Tel.tints (by simp)) (.cons hp .nil) hc (by simpa using hz) fun c' h' => k c' ?_
  unfold LdT
  rw [List.map_append]
  exact h'
theorem s_appW (h : LdW c p ws) (hp : Pulls [[(t, .tup [.int n, .ref a])], [(a, .lst ys)]] L L1) (hc : Pull c L1 L2) (hv : IntsV ys r) (hz : ws.length < 1000000) (k : ∀ c', LdW c' p (ws ++ [(n, r)]) → Wk P (c' :: L2)) : gAppend (.ref p) [.ref t] L (fun _ => Wk P) := by
  have e := hv.eq
  subst e
  refine LdD.snoc (d := VM.dP (n, r)) h (Tel.dP (a := a) (by simp) (by simp)) hp hc (by simpa using hz) fun c' h' => k c' ?_
  unfold LdW
  rw [List.map_append]
  exact h'
theorem DpL.ldT (h : LdT c p ts) (hm : c ∈ L) : DpL K L (.ref p) (dTs ts) := DpL.tel h.tel hm
theorem DpL.ldW (h : LdW c p ws) (hm : c ∈ L) : DpL K L (.ref p) (dW ws) := DpL.tel h.tel hm
theorem LdT.isl (h : LdT c p ts) (hm : c ∈ L) : ∃ xs, At L p (.lst xs) ∧ xs.length = ts.length ∧ TelAll c xs (ts.map dT) := by
  obtain ⟨xs, h1, h2⟩ := h.open_
  exact ⟨xs, At.mem hm h1, by rw [h2.len, List.length_map], h2⟩
theorem LdW.isl (h : LdW c p ws) (hm : c ∈ L) : ∃ xs, At L p (.lst xs) ∧ xs.length = ws.length ∧ TelAll c xs (ws.map VM.dP) := by
  obtain ⟨xs, h1, h2⟩ := h.open_
  exact ⟨xs, At.mem hm h1, by rw [h2.len, List.length_map], h2⟩
theorem s_len_ldT (h : LdT c p ts) (hm : c ∈ L) (k : Q (.int ts.length) L) : gLen K [.ref p] L Q := by
  obtain ⟨xs, h1, h2, _⟩ := h.isl hm
  exact s_len_l (IsL.at_ h1) (by rw [h2]; exact k)
theorem s_len_ldW (h : LdW c p ws) (hm : c ∈ L) (k : Q (.int ws.length) L) : gLen K [.ref p] L Q := by
  obtain ⟨xs, h1, h2, _⟩ := h.isl hm
  exact s_len_l (IsL.at_ h1) (by rw [h2]; exact k)
theorem ty_ldT (h : LdT c p ts) (hm : c ∈ L) : TyXL K L (.ref p) (.type "list") := by
  obtain ⟨xs, h1, _⟩ := h.isl hm
  exact ty_l h1
theorem ty_ldW (h : LdW c p ws) (hm : c ∈ L) : TyXL K L (.ref p) (.type "list") := by
  obtain ⟨xs, h1, _⟩ := h.isl hm
  exact ty_l h1
theorem tyl_ldT {B : Prop} (h : LdT c p ts) (hm : c ∈ L) (k : B) : TyL K "list" (.ref p) L ∧ B := by
  obtain ⟨xs, h1, _⟩ := h.isl hm
  exact s_tylk (IsL.at_ h1) k
theorem tyl_ldW {B : Prop} (h : LdW c p ws) (hm : c ∈ L) (k : B) : TyL K "list" (.ref p) L ∧ B := by
  obtain ⟨xs, h1, _⟩ := h.isl hm
  exact s_tylk (IsL.at_ h1) k
/-- a row put at the end of a volume -/
theorem cells_snocP {as : List Addr} {rows : List (List Int)} {L T : Lg} (hl : as.length = rows.length) (h : LicS L ([(p, .lst ((as.map V.ref) ++ [.ref a]))] :: [(a, .lst (r.map V.int))] :: cellsL as rows :: T)) : LicS L (volC p (as ++ [a]) (rows ++ [r]) :: T) := by
  refine h.trans ⟨[], ?_⟩
  unfold volC
  rw [cells_snoc hl, List.map_append]
  simp only [List.flatten_cons, List.cons_append, List.nil_append, List.append_nil, List.append_assoc, List.map_cons, List.map_nil]
  exact List.Perm.cons _ List.perm_middle.symm
theorem s_appR {as : List Addr} {rows : List (List Int)} (hp : Pull [(a, .lst ys)] L L1) (hc : Pull (volC p as rows) L1 L2) (hv : IntsV ys r) (hl : as.length = rows.length) (hz : rows.length < 1000000) (k : Wk P (volC p (as ++ [a]) (rows ++ [r]) :: L2)) : gAppend (.ref p) [.ref a] L (fun _ => Wk P) := by
  have e := hv.eq
  subst e
  obtain ⟨L3, g1, g2⟩ := hp.sw hc
  obtain ⟨L', w, q⟩ := Pull.wr (A := []) (o' := .lst ((as.map V.ref) ++ [.ref a])) g1
  refine s_append w (by rw [List.length_map, hl]; exact hz) ?_
  obtain ⟨L5, l, z⟩ := k
  refine ⟨L5, Lic.trans (LicS.lic ?_) l, z⟩
  refine cells_snocP hl (LicS.trans (LicS.pull q (LicS.pull g2 LicS.refl)) ⟨[], ?_⟩)
  simp only [List.flatten_cons, List.cons_append, List.nil_append, List.append_nil]
  exact List.Perm.cons _ List.perm_middle
/-- a list of ints made longer by a row -/
theorem s_ext_i {q : Addr} {ns ms : List Int} (h : At L q (.lst ys)) (hw : Wr p (.lst xs) (.lst ((ns ++ ms).map V.int)) L L1) (v : IntsV ys ms) (v' : IntsV xs ns) (hz : ns.length + ms.length ≤ 1000000) (k : Q .non L1) : gExtend (.ref p) [.ref q] L Q := by
  have e := v.eq
  have e' := v'.eq
  subst e; subst e'
  exact s_extend h (by rw [← List.map_append]; exact hw) (by simpa using hz) k
variable {σ σw : St} {gg : LTG} {tb : LTS} {n0 : St → Lg → Prop} {r0 : LVK} {b0 c0 : St → Lg → Prop} {tt : LTT} {te : LTE} {vw : List Nat} {Dl : Addr}
/-! comprehensions over tuples -/
theorem c_tup (Pv : Nat → List V → Lg → Prop) {σw : St} (hw : wipe σ vw = σw) (h0 : Wk (Pv 0 []) L) (hG : ∀ i acc L, Pv i acc L → IsT K ([(Dl, .lst acc)] :: L) p xs) (hs : ∀ i acc x L, xs[i]? = some x → Pv i acc L → gg x σw ([(Dl, .lst acc)] :: L) (LcT tt te Dl acc (Pv (i + 1)) σw vw)) (hd : ∀ acc L, Pv xs.length acc L → Wk (Q (.ref Dl)) ([(Dl, .lst acc)] :: L)) : LcR (wkT K p xs) gg tt te vw σ Dl L Q := by
  refine ⟨Pv, h0, fun i acc L _ h => hG i acc L h, fun i acc x L L' hi p _ ⟨e1, e2⟩ => ?_, fun acc L p _ => hd acc L p⟩
  subst e1; subst hw
  exact hs i acc x _ e2 p
theorem a_dropT {ns : List Int} (hx : IsT K L p xs) (hv : IntsV xs ns) (hw : wipe σ vw = σw)
    (hs : ∀ (x : Int) (Dl : Addr), x ∈ ns → gg (.int x) σw ([(Dl, .lst [])] :: L) (LcT tt te Dl [] (AccN L) σw vw))
    (hd : ∀ Dl, Wk (Q (.ref Dl)) ([(Dl, .lst [])] :: L)) : ∀ Dl, Dl ∉ keys L → LcR (wkT K p xs) gg tt te vw σ Dl L Q := fun Dl _ => by
  have hv := hv.eq
  subst hv
  refine c_tup (fun i acc L' => AccN L acc L') hw (Wk.go ⟨rfl, rfl⟩) (fun i acc L' h => ?_) ?_ ?_
  · rw [h.2]; exact IsT.tl hx
  · rintro i acc x L' hi ⟨rfl, rfl⟩
    rw [List.getElem?_map] at hi
    obtain ⟨y, hy, rfl⟩ := Option.map_eq_some_iff.mp hi
    exact hs y Dl (List.mem_of_getElem? hy)
  · rintro acc L' ⟨rfl, rfl⟩
    exact hd Dl
theorem a_filtT {ns : List Int} (f : Int → Bool) (hx : IsT K L p xs) (hv : IntsV xs ns) (hw : wipe σ vw = σw) (hz : ns.length ≤ 1000000)
    (hs : ∀ (x : Int) (acc : List V) (Dl : Addr), x ∈ ns → acc.length < 1000000 → gg (.int x) σw ([(Dl, .lst acc)] :: L) (LcT tt te Dl acc (AccB acc (f x) (.int x) L) σw vw))
    (hd : ∀ Dl, Wk (Q (.ref Dl)) ([(Dl, .lst ((ns.filter f).map V.int))] :: L)) : ∀ Dl, Dl ∉ keys L → LcR (wkT K p xs) gg tt te vw σ Dl L Q := fun Dl _ => by
  have hv := hv.eq
  subst hv
  refine c_tup (fun i acc L' => acc = ((ns.take i).filter f).map V.int ∧ i ≤ ns.length ∧ L' = L) hw (Wk.go ⟨by simp, Nat.zero_le _, rfl⟩) (fun i acc L' h => ?_) ?_ ?_
  · rw [h.2.2]; exact IsT.tl hx
  · rintro i acc x L' hi ⟨rfl, hl, rfl⟩
    rw [List.getElem?_map] at hi
    obtain ⟨y, hy, rfl⟩ := Option.map_eq_some_iff.mp hi
    have hlt : i < ns.length := (List.getElem?_eq_some_iff.mp hy).1
    have hle : ((ns.take i).filter f).length ≤ i := Nat.le_trans (List.length_filter_le _ _) (by simp; omega)
    have := hs y (((ns.take i).filter f).map V.int) Dl (List.mem_of_getElem? hy) (by rw [List.length_map]; omega)
    have e : AccB (((ns.take i).filter f).map V.int) (f y) (.int y) L' = fun acc' L'' => acc' = ((ns.take (i + 1)).filter f).map V.int ∧ i + 1 ≤ ns.length ∧ L'' = L' := by
      funext a b
      unfold AccB
      rw [List.take_succ, hy]
      have : i + 1 ≤ ns.length := hlt
      cases hf : f y <;> simp [this, hf]
    rw [e] at this
    exact this
  · rintro acc L' ⟨rfl, _, rfl⟩
    rw [List.length_map, List.take_length]
    exact hd Dl
theorem s_kseqT {R : LWk → Lg → Prop} (h : LdT c p ts) (hm : c ∈ L) (k : ∀ xs, (p, HO.lst xs) ∈ c → TelAll c xs (ts.map dT) → R (wkL K p xs) L) : SeqK K R (.ref p) L := by
  obtain ⟨xs, h1, h2⟩ := h.open_
  exact s_kseqv (IsL.at_ (At.mem hm h1)) (k xs h1 h2)
theorem s_kseqW {R : LWk → Lg → Prop} (h : LdW c p ws) (hm : c ∈ L) (k : ∀ xs, (p, HO.lst xs) ∈ c → TelAll c xs (ws.map VM.dP) → R (wkL K p xs) L) : SeqK K R (.ref p) L := by
  obtain ⟨xs, h1, h2⟩ := h.open_
  exact s_kseqv (IsL.at_ (At.mem hm h1)) (k xs h1 h2)
theorem dTs_nil {a : List (List Int)} : dTs a = dI [] ↔ a = [] := by
  cases a <;> simp [dTs, dI]
theorem dTs_nil' {a : List (List Int)} : dI [] = dTs a ↔ a = [] := by
  cases a <;> simp [dTs, dI]
/-- tuples gathered turn by turn -/
def accM (g : Nat → List (List Int)) (n : Nat) : List (List Int) := ((List.range n).map g).flatten
theorem accM_succ (g : Nat → List (List Int)) (n : Nat) : accM g (n + 1) = accM g n ++ g n := by
  unfold accM
  rw [List.range_succ, List.map_append, List.flatten_append]
  simp
theorem accM_congr {g h : Nat → List (List Int)} {n : Nat} (e : ∀ i, i < n → g i = h i) : accM g n = accM h n := by
  unfold accM
  congr 1
  exact List.map_congr_left fun i hi => e i (List.mem_range.mp hi)
theorem accM_len {g : Nat → List (List Int)} (h : ∀ j, (g j).length ≤ 1) : ∀ i, (accM g i).length ≤ i
  | 0 => Nat.le_refl _
  | i + 1 => by
    rw [accM_succ, List.length_append]
    have := h i
    have := accM_len h i
    omega
/-- .. item by item -/
def accL (g : Int → List (List Int)) (ns : List Int) : List (List Int) := (ns.map g).flatten
theorem accL_take (g : Int → List (List Int)) {ns : List Int} {i : Nat} {x : Int} (h : ns[i]? = some x) : accL g (ns.take (i + 1)) = accL g (ns.take i) ++ g x := by
  unfold accL
  rw [List.take_succ, h]
  simp
theorem accL_len {g : Int → List (List Int)} (h : ∀ j, (g j).length ≤ 1) (ns : List Int) : (accL g ns).length ≤ ns.length := by
  induction ns with
  | nil => exact Nat.le_refl _
  | cons n ns ih =>
    unfold accL at ih ⊢
    rw [List.map_cons, List.flatten_cons, List.length_append, List.length_cons]
    have := h n
    omega
theorem LdT.to {ts' : List (List Int)} (h : LdT c p ts) (e : ts' = ts) : LdT c p ts' := e ▸ h
theorem LdW.to {ws' : List (Int × List Int)} (h : LdW c p ws) (e : ws' = ws) : LdW c p ws' := e ▸ h
/-! rows of a volume changed -/
theorem rowAt_set {rows : List (List Int)} {j k : Int} {r : List Int} (hj : 0 ≤ j) (hk : 0 ≤ k) (hl : j < rows.length) : rowAt (rows.set j.toNat r) k = if k = j then r else rowAt rows k := by
  unfold rowAt
  simp only [List.getD_eq_getElem?_getD, List.getElem?_set]
  by_cases e : k = j
  · subst e
    have : k.toNat < rows.length := by omega
    simp [this]
  · have : ¬ j.toNat = k.toNat := by omega
    simp [this, e]
theorem rowAt_putAt {rows : List (List Int)} {j k : Int} {n : Nat} {v : Int} (hj : 0 ≤ j) (hk : 0 ≤ k) (hl : j < rows.length) : rowAt (putAt rows j n v) k = if k = j then (rowAt rows j).set n v else rowAt rows k := rowAt_set hj hk hl
theorem rowAt_snoc {rows : List (List Int)} {k : Int} {r : List Int} (hk : 0 ≤ k) : rowAt (rows ++ [r]) k = if k < rows.length then rowAt rows k else if k = rows.length then r else [] := by
  unfold rowAt
  simp only [List.getD_eq_getElem?_getD]
  by_cases e : k < rows.length
  · rw [if_pos e, List.getElem?_append_left (by omega)]
  · rw [if_neg e, List.getElem?_append_right (by omega)]
    by_cases e2 : k = rows.length
    · rw [if_pos e2]
      have : k.toNat - rows.length = 0 := by omega
      rw [this]; rfl
    · rw [if_neg e2]
      have : ∃ m, k.toNat - rows.length = m + 1 := ⟨k.toNat - rows.length - 1, by omega⟩
      obtain ⟨m, hm⟩ := this
      rw [hm]; rfl
/-! in, of ints -/
theorem inV_ints (x : Int) : ∀ ns : List Int, inV (.int x) (ns.map V.int) = decide (x ∈ ns)
  | [] => by simp [inV]
  | n :: ns => by
    have ih := inV_ints x ns
    unfold inV at ih ⊢
    rw [List.map_cons, List.any_cons, ih]
    by_cases e : x = n
    · subst e; simp [eqV]
    · have e' : ¬ n = x := fun h => e h.symm
      simp [eqV, e, e']
theorem flat_ints : ∀ ns : List Int, (ns.map V.int).all flatV = true
  | [] => rfl
  | n :: ns => by rw [List.map_cons, List.all_cons, flat_ints ns]; rfl
section
variable {x : Int} {ns : List Int}
theorem s_in_i (h : IsL K L p xs) (v : IntsV xs ns) (k : Q (.bl (decide (x ∈ ns))) L) : gIn K false (.int x) (.ref p) L Q := by
  have e := v.eq
  subst e
  exact .inl ⟨p, _, rfl, .inl h, rfl, flat_ints ns, by rw [inV_ints]; exact k⟩
theorem s_nin_i (h : IsL K L p xs) (v : IntsV xs ns) (k : Q (.bl (!decide (x ∈ ns))) L) : gIn K true (.int x) (.ref p) L Q := by
  have e := v.eq
  subst e
  exact .inl ⟨p, _, rfl, .inl h, rfl, flat_ints ns, by rw [inV_ints]; exact k⟩
theorem s_in_it (h : IsT K L p xs) (v : IntsV xs ns) (k : Q (.bl (decide (x ∈ ns))) L) : gIn K false (.int x) (.ref p) L Q := by
  have e := v.eq
  subst e
  exact .inl ⟨p, _, rfl, .inr h, rfl, flat_ints ns, by rw [inV_ints]; exact k⟩
theorem s_nin_it (h : IsT K L p xs) (v : IntsV xs ns) (k : Q (.bl (!decide (x ∈ ns))) L) : gIn K true (.int x) (.ref p) L Q := by
  have e := v.eq
  subst e
  exact .inl ⟨p, _, rfl, .inr h, rfl, flat_ints ns, by rw [inV_ints]; exact k⟩
/-! dicts by ints -/
variable {kvs : List (Key × V)} {i : Int}
theorem s_in_d (h : At L p (.dK kvs)) (k : Q (.bl (valV kvs (.inl i)).isSome) L) : gIn K false (.int i) (.ref p) L Q := .inr ⟨p, _, rfl, fun H l => DGet.k (k := .inl i) (h H l), k⟩
theorem s_nin_d (h : At L p (.dK kvs)) (k : Q (.bl (!(valV kvs (.inl i)).isSome)) L) : gIn K true (.int i) (.ref p) L Q := .inr ⟨p, _, rfl, fun H l => DGet.k (k := .inl i) (h H l), k⟩
theorem s_ix_d (h : At L p (.dK kvs)) (e : valV kvs (.inl i) = some v) (k : Q v L) : gIx K (.ref p) (.int i) L Q := .inr (.inr ⟨p, v, rfl, fun H l => e ▸ DGet.k (k := .inl i) (h H l), k⟩)
theorem s_set_d {Q : Lg → Prop} (hw : Wr p (.dK kvs) (.dK (putK kvs (.inl i) v)) L L1) (hz : kvs.length < 1000000) (k : Q L1) : gSet (.ref p) (.int i) v L Q := .inr ⟨p, kvs, .inl i, L1, rfl, rfl, Nat.lt_of_lt_of_le hz (by decide), hw, k⟩
end
/-! sorted ints -/
def gSortedI (K : PySem.W.Frag) : LRC := fun xs L Q => ∃ (a : Addr) (ns : List Int), xs = [.ref a] ∧ IsL K L a (ns.map V.int) ∧ ∀ (ms : List Int) (q : Addr), ms.Perm ns → ms.Pairwise (· ≤ ·) → q ∉ keys L → Q (.ref q) ([(q, .lst (ms.map V.int))] :: L)
theorem lk_sorted {X : Cx} : CallL X (.builtin "sorted") (gSortedI X.K) := CallR.imp cr_sortedI fun xs H Q ⟨L, QL, hL, ⟨a, ns, e, h1, h2⟩, k⟩ => ⟨a, ns, e, h1 H hL, fun ms q p1 p2 hq => k _ _ _ (h2 ms q p1 p2 (hL.fresh hq)) (hL.new hq)⟩
theorem kk_sorted {X : Cx} (K : PySem.W.Frag) (h : X.K = K := by rfl) : CallL X (.builtin "sorted") (gSortedI K) := by subst h; exact lk_sorted
theorem s_sorted {ns : List Int} {xs : List V} (h : IsL K L a xs) (v : IntsV xs ns) (k : ∀ (ms : List Int) q, ms.Perm ns → ms.Pairwise (· ≤ ·) → ms.length = ns.length → Q (.ref q) ([(q, .lst (ms.map V.int))] :: L)) : gSortedI K [.ref a] L Q := ⟨a, ns, rfl, v.eq ▸ h, fun ms q p1 p2 _ => k ms q p1 p2 p1.length_eq⟩
/-! zip -/
def wkZ (K : PySem.W.Frag) (a b : Addr) (xs ys : List V) : LWk := ⟨min xs.length ys.length, fun L => IsL K L a xs ∧ IsL K L b ys, fun i L x L' => ∃ p u v, p ∉ keys L ∧ x = .ref p ∧ L' = [(p, .tup [u, v])] :: L ∧ xs[i]? = some u ∧ ys[i]? = some v⟩
theorem sim_z {a b : Addr} {xs ys : List V} : Sim (Itz K a b) (wkZ K a b xs ys) := (walk_zip rfl).mono (fun H ⟨L, l, h1, h2⟩ => ⟨h1 H l, h2 H l⟩) fun i H x H' hi g y L l _ => by
  obtain ⟨p, u, v, e1, hp, e2, h1, h2⟩ := y
  subst e1; subst e2
  exact ⟨_, l.new hp, p, u, v, l.fresh hp, rfl, rfl, h1, h2⟩
def kZip (K : PySem.W.Frag) (ta : LTA) : LTI := fun σ L R => ta σ L fun vs L1 => ∃ a b xs ys, vs = [.ref a, .ref b] ∧ IsL K L1 a xs ∧ IsL K L1 b ys ∧ R (wkZ K a b xs ys) L1
theorem li_zip {X : Cx} {e e2 : Expr} {ta : LTA} {p pos tpos : Pos} {elts : List Expr} {kk : Nat} (hg : Gl X "zip") (hm : X.mg "zip" = none) (ha : LA X [e, e2] ta)
    (hs : starEach [e, e2] X.env = (false, eval e X.env) :: starEach [e2] X.env := by rfl) (hpl : (backTo pos (starEach [e2] X.env)).any (·.1) = false := by rfl) : LI X (.Tuple elts kk tpos) (.Call (.Name "zip" p) [e, e2] [] pos) (kZip X.K ta) := by
  refine PI.imp (pi_zip hg hm ha hs hpl) fun σ H R h => ?_
  obtain ⟨L, RL, hL, h, k⟩ := h
  exact ⟨L, _, hL, h, fun vs L1 H1 ⟨a, b, xs, ys, e, h1, h2, h3⟩ l => ⟨a, b, xs, ys, e, h1 H1 l, h2 H1 l, k _ _ _ _ h3 l sim_z⟩⟩
theorem ki_zip {X : Cx} (K : PySem.W.Frag) {e e2 : Expr} {ta : LTA} {p pos tpos : Pos} {elts : List Expr} {kk : Nat} (hg : Gl X "zip") (hm : X.mg "zip" = none) (ha : LA X [e, e2] ta)
    (hs : starEach [e, e2] X.env = (false, eval e X.env) :: starEach [e2] X.env := by rfl) (hpl : (backTo pos (starEach [e2] X.env)).any (·.1) = false := by rfl) (h : X.K = K := by rfl) : LI X (.Tuple elts kk tpos) (.Call (.Name "zip" p) [e, e2] [] pos) (kZip K ta) := by subst h; exact li_zip hg hm ha hs hpl
def ZipK (K : PySem.W.Frag) (R : LWk → Lg → Prop) : List V → Lg → Prop := fun vs L1 => ∃ a b xs ys, vs = [.ref a, .ref b] ∧ IsL K L1 a xs ∧ IsL K L1 b ys ∧ R (wkZ K a b xs ys) L1
variable {R : LWk → Lg → Prop} {tr : LTA}
instance j_zip : S1 (kZip K tr σ L R) (tr σ L (ZipK K R)) := ⟨id⟩
theorem s_zipv {b : Addr} (h1 : IsL K L a xs) (h2 : IsL K L b ys) (k : R (wkZ K a b xs ys) L) : ZipK K R [.ref a, .ref b] L := ⟨a, b, xs, ys, rfl, h1, h2, k⟩
end
end VM

end

section
namespace VM
open PySem PySem.Spec L2
open PyProof.Rows hiding St

theorem dec_f {c : Prop} {d : Decidable c} (h : ¬ c) : @decide c d = false := decide_eq_false h
theorem dec_t {c : Prop} {d : Decidable c} (h : c) : @decide c d = true := decide_eq_true h
theorem dec_c {c c' : Prop} {d : Decidable c} {d' : Decidable c'} (h : c ↔ c') : @decide c d = @decide c' d' := by
  by_cases hc : c
  · rw [decide_eq_true hc, decide_eq_true (h.mp hc)]
  · rw [decide_eq_false hc, decide_eq_false (fun z => hc (h.mpr z))]
/-! ### len(set(ints)) -/
def distN (ns : List Int) : Nat := (PyProof.Rows.firstMet (fun i => ns.getD i 0) ns.length).length
theorem first_nodup (ns : List Int) : ∀ i, i ≤ ns.length → ((PyProof.Rows.firstMet (fun i => ns.getD i 0) i).length = i ↔ (ns.take i).Nodup)
  | 0, _ => by simp [PyProof.Rows.firstMet_zero]
  | i + 1, hi => by
    have hlt : i < ns.length := hi
    have ih := first_nodup ns i (Nat.le_of_lt hlt)
    have hle := PyProof.Rows.firstMet_length_le (fun i => ns.getD i 0) i
    have e1 : ns.getD i 0 = ns[i] := by rw [List.getD_eq_getElem?_getD, List.getElem?_eq_getElem hlt]; rfl
    have e2 : ns.take (i + 1) = ns.take i ++ [ns[i]] := by rw [List.take_succ, List.getElem?_eq_getElem hlt]; rfl
    have e3 : (List.range i).map (fun i => ns.getD i 0) = ns.take i := by
      apply List.ext_getElem?
      intro j
      rw [List.getElem?_map, List.getElem?_take]
      by_cases hj : j < i
      · rw [List.getElem?_range hj, if_pos hj]
        simp only [Option.map_some, List.getD_eq_getElem?_getD, List.getElem?_eq_getElem (show j < ns.length by omega)]
        rfl
      · rw [if_neg hj, List.getElem?_eq_none (by simpa using hj)]
        rfl
    have ha := PyProof.Rows.firstMet_any (fun i => ns.getD i 0) i ns[i]
    rw [e3] at ha
    rw [PyProof.Rows.firstMet_succ, e2]
    unfold PyProof.Rows.step_dedup
    rw [e1, ha]
    have hnd : (ns.take i ++ [ns[i]]).Nodup ↔ (ns.take i).Nodup ∧ ns[i] ∉ ns.take i := by
      rw [List.nodup_append]
      simp only [List.nodup_cons, List.not_mem_nil, not_false_eq_true, List.nodup_nil, and_self, List.mem_cons, or_false, ne_eq, true_and]
      constructor
      · rintro ⟨h1, h2⟩
        exact ⟨h1, fun h => h2 _ h _ rfl rfl⟩
      · rintro ⟨h1, h2⟩
        exact ⟨h1, fun a ha b hb e => h2 (by subst hb; subst e; exact ha)⟩
    by_cases hm : ns[i] ∈ ns.take i
    · have : (ns.take i).any (· == ns[i]) = true := List.any_eq_true.mpr ⟨_, hm, by simp⟩
      rw [if_pos this, hnd]
      constructor
      · intro h; omega
      · intro h; exact absurd hm h.2
    · have : ¬ (ns.take i).any (· == ns[i]) = true := fun h => by
        obtain ⟨y, hy, e⟩ := List.any_eq_true.mp h
        rw [eq_of_beq e] at hy
        exact hm hy
      rw [if_neg this, List.length_append, List.length_singleton, hnd]
      constructor
      · intro h; exact ⟨ih.mp (by omega), hm⟩
      · intro h; rw [ih.mpr h.1]
theorem distN_iff (ns : List Int) : distN ns = ns.length ↔ ns.Nodup := by
  have := first_nodup ns ns.length (Nat.le_refl _)
  rw [List.take_length] at this
  exact this
def tLenSetG (K : PySem.W.Frag) (ta : TE) : TE := fun σ H Q => ta σ H fun x H1 => ∃ (l : Addr) (ns : List Int), x = .ref l ∧ SqL K H1 l (ns.map V.int) ∧ ns.length ≤ 4000 ∧ Q (.int (distN ns)) H1
theorem pe_lenSetG {X : Cx} {a : Expr} {ta : TE} {p p2 q pos : Pos} (hg : Gl X "len") (hm : X.mg "len" = none) (hg2 : Gl X "set") (hm2 : X.mg "set" = none) (ha : PE X a ta) (hc : X.calm = true := by rfl)
    (na : starEach [a] X.env = (false, eval a X.env) :: starEach [] X.env := by rfl) : PE X (.Call (.Name "len" p) [.Call (.Name "set" p2) [a] [] q] [] pos) (tLenSetG X.K ta) := by
  refine ⟨fun pins s σ H Q I h => ?_⟩
  refine Call_ (ld_blt I hg hm boot_len ?_)
  refine PyProof.Rows.callWith_builtin1 (PyProof.Rows.args_cons ?_ rfl) rfl rfl
  refine Call_ (ld_blt I hg2 hm2 boot_set ?_)
  refine PyProof.Rows.callWith_type1 (PyProof.Rows.args_cons (thn (ha.run pins s σ H _ I h) fun v s1 ⟨x, H1, I1, r1, q1⟩ => PyProof.Rows.args_nil ?_) na) na rfl
  obtain ⟨l, ns, rfl, hq, hl, q1⟩ := q1
  cases r1
  obtain ⟨its, r, pl, hz⟩ := I1.list hq
  have hlen : its.toArray.size = ns.length := by rw [List.size_toArray, ← r.length, List.length_map]
  refine call_set_list (I1.ok.hd hc) pl.isList (by simpa using RZ.intsAre_vals r) (by rw [hlen]; unfold scanBound; omega) fun h' tk hS hk => ?_
  refine PyProof.Rows.args_nil ?_
  rw [hlen] at hS
  obtain ⟨o, es, ep, t, ho, hex, hd, _, _, _, hf, hn⟩ := hS
  have I2 : Inv X pins σ H1 { s1 with heap := h', toks := tk } := I1.kept fun b o e => hk b o (Heap.lt_size e) e
  have hle := PyProof.Rows.firstMet_length_le (fun i => ns.getD i 0) ns.length
  exact call_len_set ho hex hd hf (by rw [hn] <;> omega) ⟨.int (distN ns), H1, I2.tok _, ⟨_, by rw [hn]; rfl⟩, q1⟩
def lLenSet (K : PySem.W.Frag) (ta : LTE) : LTE := fun σ L Q => ta σ L fun x L1 => ∃ (l : Addr) (ns : List Int), x = .ref l ∧ IsL K L1 l (ns.map V.int) ∧ ns.length ≤ 4000 ∧ Q (.int (distN ns)) L1
theorem klenset {X : Cx} (K : PySem.W.Frag) {a : Expr} {ta : LTE} {p p2 q pos : Pos} (hg : Gl X "len") (hm : X.mg "len" = none) (hg2 : Gl X "set") (hm2 : X.mg "set" = none) (ha : LE X a ta) (hc : X.calm = true := by rfl)
    (na : starEach [a] X.env = (false, eval a X.env) :: starEach [] X.env := by rfl) (h : X.K = K := by rfl) : LE X (.Call (.Name "len" p) [.Call (.Name "set" p2) [a] [] q] [] pos) (lLenSet K ta) := by
  subst h
  refine PE.imp (pe_lenSetG hg hm hg2 hm2 ha hc na) fun σ H Q h => ?_
  obtain ⟨L, QL, hL, h, k⟩ := h
  exact ⟨L, _, hL, h, fun x L1 H1 ⟨l, ns, e, h1, h2, h3⟩ hL1 => ⟨l, ns, e, h1 H1 hL1, h2, k _ _ _ h3 hL1⟩⟩
section
variable {K : PySem.W.Frag} {σ : St} {L L1 L2 : Lg} {Q : LVK} {ta : LTE} {c : Chunk} {p a b t : Addr} {ns : List Int} {xs ys : List V} {ws : List (Int × List Int)} {P : Lg → Prop}
def LenSetK (K : PySem.W.Frag) (Q : LVK) : LVK := fun x L1 => ∃ (l : Addr) (ns : List Int), x = .ref l ∧ IsL K L1 l (ns.map V.int) ∧ ns.length ≤ 4000 ∧ Q (.int (distN ns)) L1
instance j_lenset : S1 (lLenSet K ta σ L Q) (ta σ L (LenSetK K Q)) := ⟨id⟩
theorem s_lenset (h : IsL K L p xs) (v : IntsV xs ns) (hz : ns.length ≤ 4000) (k : Q (.int (distN ns)) L) : LenSetK K Q (.ref p) L := ⟨p, ns, rfl, v.eq ▸ h, hz, k⟩

/-! ### chains -/
def ChK (r' : LR2) (tc : LTE) (σ : St) (y : V) (Q : LVK) : LVK := fun z L3 => ∃ k, z = .bl k ∧ (if k = true then tc σ L3 fun w' L4 => r' y w' L4 Q else Q (.bl false) L3)
instance j_chain {r r' : LR2} {tb tc : LTE} : S1 (lChain r r' ta tb tc σ L Q) (ta σ L fun x L1 => tb σ L1 fun y L2 => r x y L2 (ChK r' tc σ y Q)) := ⟨id⟩
instance j_chk {r' : LR2} {tc : LTE} {y : V} {b : Bool} : S1 (ChK r' tc σ y Q (.bl b) L) (if b = true then tc σ L fun w' L4 => r' y w' L4 Q else Q (.bl false) L) := ⟨fun h => ⟨b, rfl, h⟩⟩
theorem q_bl {b b' : Bool} (h : Q (.bl b') L) (e : b' = b) : Q (.bl b) L := e ▸ h
theorem s_sl_r {as : List Addr} {lo hi : Option Int} (h : IsL K L p (as.map V.ref)) (k : ∀ r, Q (.ref r) ([(r, .lst ((cutG as lo hi).map V.ref))] :: L)) : gSl K (.ref p) lo hi L Q := .inl ⟨p, _, rfl, h, fun r _ => by rw [cutV_map]; exact k r⟩
theorem cutG_map {α β : Type} (f : α → β) (xs : List α) (lo hi : Option Int) : cutG (xs.map f) lo hi = (cutG xs lo hi).map f := by
  unfold cutG
  rw [List.length_map, List.map_take, List.map_drop]
theorem cutG_same {α β : Type} {xs : List α} {ys : List β} (h : xs.length = ys.length) (lo hi : Option Int) : ∃ a n, cutG xs lo hi = (xs.drop a).take n ∧ cutG ys lo hi = (ys.drop a).take n := by
  refine ⟨_, _, rfl, ?_⟩
  unfold cutG
  rw [h]
theorem s_add_iv {q : Addr} {ms : List Int} (h1 : At L p (.lst xs)) (h2 : At L q (.lst ys)) (v1 : IntsV xs ns) (v2 : IntsV ys ms) (hz : ns.length + ms.length ≤ 1000000) (k : ∀ r, Q (.ref r) ([(r, .lst ((ns ++ ms).map V.int))] :: L)) : gAdd K (.ref p) (.ref q) L Q := by
  have e1 := v1.eq
  have e2 := v2.eq
  subst e1; subst e2
  exact s_add_l h1 h2 (by simp only [List.length_map]; exact Nat.le_trans hz (by decide)) fun r => by rw [← List.map_append]; exact k r
theorem s_rep1 {a j : Int} (h : At L p (.lst [V.int a])) (h1 : 0 ≤ j) (h2 : j.toNat ≤ 1000000) (k : ∀ r, Q (.ref r) ([(r, .lst ((List.replicate j.toNat a).map V.int))] :: L)) : gMul (.ref p) (.int j) L Q := by
  refine s_rep h h1 (by simpa using h2) (by omega) fun r => ?_
  have e := (IntsV.rep (k := j.toNat) (a := a)).eq
  rw [e]
  exact k r
theorem s_iteDx {c A B : Prop} {d : Decidable c} (h1 : c → A) (h2 : ¬ c → B) : if @decide c d = true then A else B := by
  by_cases h : c
  · rw [decide_eq_true h, if_pos rfl]; exact h1 h
  · rw [decide_eq_false h, if_neg Bool.false_ne_true]; exact h2 h
theorem s_iteNx {c A B : Prop} {d : Decidable c} (h1 : c → B) (h2 : ¬ c → A) : if (!@decide c d) = true then A else B := by
  by_cases h : c
  · rw [decide_eq_true h]; exact iteF (h1 h)
  · rw [decide_eq_false h]; exact iteT (h2 h)
theorem s_ix_ldW {i : Int} (h : LdW c p ws) (hm : c ∈ L) (h0 : 0 ≤ i) (h1 : i < ws.length) (k : ∀ t a, (t, HO.tup [.int (ws.getD i.toNat (0, [])).1, .ref a]) ∈ c → (a, HO.lst ((ws.getD i.toNat (0, [])).2.map V.int)) ∈ c → Q (.ref t) L) : gIx K (.ref p) (.int i) L Q := by
  obtain ⟨xs, h2, h3⟩ := h.open_
  obtain ⟨n, rfl⟩ : ∃ n : Nat, i = n := ⟨i.toNat, by omega⟩
  have hn : n < ws.length := by omega
  have hxl : xs.length = ws.length := by rw [h3.len, List.length_map]
  obtain ⟨w, t, a, e1, e2, m1, m2⟩ := h3.pair (List.getElem?_eq_getElem (show n < xs.length by omega))
  have ew : ws.getD (n : Int).toNat (0, []) = w := by
    rw [List.getD_eq_getElem?_getD, Int.toNat_natCast, e1]; rfl
  refine s_ix_l (v := .ref t) (IsL.at_ (At.mem hm h2)) (atI_nat ?_) (k t a (by rw [ew]; exact m1) (by rw [ew]; exact m2))
  rw [List.getElem?_eq_getElem (show n < xs.length by omega), e2]
theorem s_ix_ldT {ts : List (List Int)} {i : Int} (h : LdT c p ts) (hm : c ∈ L) (h0 : 0 ≤ i) (h1 : i < ts.length) (k : ∀ t, (t, HO.tup ((ts.getD i.toNat []).map V.int)) ∈ c → Q (.ref t) L) : gIx K (.ref p) (.int i) L Q := by
  obtain ⟨xs, h2, h3⟩ := h.open_
  obtain ⟨n, rfl⟩ : ∃ n : Nat, i = n := ⟨i.toNat, by omega⟩
  have hn : n < ts.length := by omega
  have hxl : xs.length = ts.length := by rw [h3.len, List.length_map]
  obtain ⟨r, t, e1, e2, m1⟩ := h3.tup (List.getElem?_eq_getElem (show n < xs.length by omega))
  have ew : ts.getD (n : Int).toNat [] = r := by
    rw [List.getD_eq_getElem?_getD, Int.toNat_natCast, e1]; rfl
  refine s_ix_l (v := .ref t) (IsL.at_ (At.mem hm h2)) (atI_nat ?_) (k t (by rw [ew]; exact m1))
  rw [List.getElem?_eq_getElem (show n < xs.length by omega), e2]
theorem s_len_tN {n : Nat} (h : IsT K L p xs) (e : xs.length = n) (k : Q (.int n) L) : gLen K [.ref p] L Q := s_len_t h (by rw [e]; exact k)
theorem s_len_lN {n : Nat} (h : IsL K L p xs) (e : xs.length = n) (k : Q (.int n) L) : gLen K [.ref p] L Q := s_len_l h (by rw [e]; exact k)
/-! ### set at a slot -/
theorem setAt_set : ∀ (σ : St) (j : Nat) (v : V), j < σ.length → SetAt v σ j (σ.set j (some v))
  | [], j, v, h => by simp at h
  | x :: σ, 0, v, _ => .hd
  | x :: σ, j + 1, v, h => .tl (setAt_set σ j v (by simpa using h))
theorem wipe2 {σ σw : St} {j k : Nat} {vs : List Nat} (hvs : vs = [j, k]) (hw : wipe σ vs = σw) (x y : Option V) : wipe ((σw.set j x).set k y) vs = σw := by
  subst hvs; subst hw
  simp only [wipe]
  apply List.ext_getElem?
  intro m
  simp only [List.getElem?_set, List.length_set]
  by_cases e1 : k = m <;> by_cases e2 : j = m <;> simp_all

/-! ### [(n, row) for n, row in zip(ints, rows)] -/
theorem a_zipW {as : List Addr} {rows : List (List Int)} {j k : Nat} {vs : List Nat} {ms : List Int} (hm : Pull (volC b as rows) L L1) (ha : IsL K L1 a xs) (v : IntsV xs ms) (hl : as.length = rows.length) (hz : ms.length ≤ 1000) (hj : j < σ.length) (hk : k < σ.length) (hjk : j ≠ k) (hvs : vs = [j, k])
    (kk : ∀ D c, LdW c D (ms.zip rows) → Wk (Q (.ref D)) (c :: L1)) : ∀ D, D ∉ keys L → LcR (wkZ K a b xs (as.map V.ref)) (hTup K 2 (hCons (hName j) (hCons (hName k) hNil))) lYes (lTup (lCons (lVar j) (lCons (lVar k) lNil))) vs σ D L Q := by
  have e := v.eq
  subst e
  intro D hD
  obtain ⟨σw, hw⟩ : ∃ σw, wipe σ vs = σw := ⟨_, rfl⟩
  have hj' : j < σw.length := by rw [← hw, wipe_length]; exact hj
  have hk' : k < σw.length := by rw [← hw, wipe_length]; exact hk
  have hmin : (ms.zip rows).length = min ms.length rows.length := List.length_zip
  refine ⟨fun i acc L' => ∃ C, L' = C :: L1 ∧ acc.length = i ∧ TelAll C acc (((ms.zip rows).take i).map VM.dP) ∧ (∀ x ∈ volC b as rows, x ∈ C), ?_, ?_, ?_, ?_⟩
  · exact Wk.by_ (L' := volC b as rows :: L1) (LicS.lic (LicS.pull hm LicS.refl)) ⟨_, rfl, rfl, by simpa using TelAll.nil, fun x hx => hx⟩
  · rintro i acc L' hi ⟨C, rfl, hacc, ht, hv⟩
    exact ⟨IsL.tl (IsL.tl ha), IsL.at_ (At.tl (At.hd (hv _ List.mem_cons_self)))⟩
  · rintro i acc x L3 L' hi ⟨C, rfl, hacc, ht, hv⟩ hDk ⟨p, u, v, hp, rfl, rfl, hu, hv2⟩
    rw [hw]
    have hi' : i < min ms.length (as.map V.ref).length := by simpa [wkZ] using hi
    rw [List.length_map] at hi'
    have h1 : i < ms.length := by omega
    have h2 : i < as.length := by omega
    have hr : rows[i]? = some rows[i] := List.getElem?_eq_getElem (by omega)
    have hms : ms[i]? = some ms[i] := List.getElem?_eq_getElem h1
    rw [List.getElem?_map, hms] at hu
    obtain rfl := Option.some.inj hu
    have has : as[i]? = some as[i] := List.getElem?_eq_getElem h2
    rw [List.getElem?_map, has] at hv2
    obtain rfl := Option.some.inj hv2
    have hzip : (ms.zip rows)[i]? = some (ms[i], rows[i]) := by rw [List.getElem?_zip_eq_some]; exact ⟨hms, hr⟩
    refine s_htup (IsT.at_ At.hd1) rfl ?_
    refine s_hcons (s_name (setAt_set _ _ _ hj') (s_hcons (s_name (setAt_set _ _ _ (by rw [List.length_set]; exact hk')) (s_hnil ?_))))
    refine ⟨wipe2 hvs hw _ _, s_yes ?_⟩
    rw [if_pos rfl]
    refine s_tup (s_cons (s_var (v := .int ms[i]) (by rw [List.getElem?_set_ne (Ne.symm hjk), List.getElem?_set_self hj']) (s_cons (s_var (v := .ref as[i]) (by rw [List.getElem?_set_self (by rw [List.length_set]; exact hk')]) (s_nil (s_new (show 2 ≤ sizeLine by decide) fun t2 => ?_))))))
    refine ⟨Nat.lt_of_lt_of_le (show acc.length < 1000000 by omega) (by decide), ((t2, .tup [.int ms[i], .ref as[i]]) :: C) :: L1, ?_, ⟨_, rfl, by simp [hacc], ?_, fun x hx => List.mem_cons_of_mem _ (hv x hx)⟩⟩
    · refine LicS.lic (LicS.pull (.tl (.tl .hd)) (LicS.split (LicS.pull .hd (LicS.skip LicS.refl))))
    · have e : ((ms.zip rows).take (i + 1)).map VM.dP = ((ms.zip rows).take i).map VM.dP ++ [VM.dP (ms[i], rows[i])] := by
        rw [List.take_succ, hzip, List.map_append]; rfl
      rw [e]
      exact TelAll.snoc (Tel.dP (a := as[i]) List.mem_cons_self (List.mem_cons_of_mem _ (hv _ (List.mem_cons_of_mem _ (cells_mem has hr))))) (ht.mono fun x hx => List.mem_cons_of_mem _ hx)
  · rintro acc L' ⟨C, rfl, hacc, ht, hv⟩ hDk
    have hn : (wkZ K a b (ms.map V.int) (as.map V.ref)).n = (ms.zip rows).length := by
      show min (ms.map V.int).length (as.map V.ref).length = _
      rw [hmin, List.length_map, List.length_map, hl]
    rw [hn, List.take_length] at ht
    obtain ⟨L5, l, q⟩ := kk D ((D, .lst acc) :: C) ⟨C, acc, rfl, ht⟩
    exact ⟨L5, Lic.trans (LicS.lic (LicS.of_flat (by simp))) l, q⟩
/-! ### [n for n, row in pairs] -/
theorem a_fst {j k : Nat} {vs : List Nat} (hm : c ∈ L) (hp : (p, HO.lst xs) ∈ c) (ht : TelAll c xs (ws.map VM.dP)) (hz : ws.length ≤ 1000) (hj : j < σ.length) (hk : k < σ.length) (hjk : j ≠ k) (hvs : vs = [j, k])
    (kk : ∀ D, Wk (Q (.ref D)) ([(D, .lst ((ws.map Prod.fst).map V.int))] :: L)) : ∀ D, D ∉ keys L → LcR (wkL K p xs) (hTup K 2 (hCons (hName j) (hCons (hName k) hNil))) lYes (lVar j) vs σ D L Q := by
  intro D hD
  obtain ⟨σw, hw⟩ : ∃ σw, wipe σ vs = σw := ⟨_, rfl⟩
  have hj' : j < σw.length := by rw [← hw, wipe_length]; exact hj
  have hk' : k < σw.length := by rw [← hw, wipe_length]; exact hk
  have hxl : xs.length = ws.length := by rw [ht.len, List.length_map]
  refine c_list (fun i acc L' => acc = ((ws.take i).map Prod.fst).map V.int ∧ i ≤ ws.length ∧ L' = L) hw (Wk.go ⟨by simp, Nat.zero_le _, rfl⟩) (fun i acc L' h => ?_) ?_ ?_
  · rw [h.2.2]; exact IsL.tl (IsL.at_ (At.mem hm hp))
  · rintro i acc x L' hi ⟨rfl, hl, rfl⟩
    obtain ⟨⟨n, r⟩, t, a, hwi, rfl, m1, m2⟩ := ht.pair hi
    have hlt : i < ws.length := (List.getElem?_eq_some_iff.mp hwi).1
    refine s_htup (xs := [.int n, .ref a]) (IsT.at_ (At.tl (At.mem hm m1))) rfl ?_
    refine s_hcons (s_name (setAt_set _ _ _ hj') (s_hcons (s_name (setAt_set _ _ _ (by rw [List.length_set]; exact hk')) (s_hnil ?_))))
    refine s_lct (wipe2 hvs hw _ _) (s_yes ?_)
    rw [if_pos rfl]
    refine s_var (v := .int n) (by rw [List.getElem?_set_ne (Ne.symm hjk), List.getElem?_set_self hj']) ?_
    refine s_lcy (L5 := L') (by simp; omega) Lic.refl ⟨?_, hlt, rfl⟩
    rw [List.take_succ, hwi]
    simp
  · rintro acc L' ⟨rfl, _, rfl⟩
    rw [hxl, List.take_length]
    exact kk D
/-- .. the rows -/
theorem a_snd {j k : Nat} {vs : List Nat} (hm : c ∈ L) (hp : (p, HO.lst xs) ∈ c) (ht : TelAll c xs (ws.map VM.dP)) (hz : ws.length ≤ 1000) (hj : j < σ.length) (hk : k < σ.length) (hjk : j ≠ k) (hvs : vs = [j, k])
    (kk : ∀ D (rs : List Addr), rs.length = ws.length → (∀ (i : Nat) a w, rs[i]? = some a → ws[i]? = some w → (a, HO.lst (w.2.map V.int)) ∈ c) → Wk (Q (.ref D)) ([(D, .lst (rs.map V.ref))] :: L)) : ∀ D, D ∉ keys L → LcR (wkL K p xs) (hTup K 2 (hCons (hName j) (hCons (hName k) hNil))) lYes (lVar k) vs σ D L Q := by
  intro D hD
  obtain ⟨σw, hw⟩ : ∃ σw, wipe σ vs = σw := ⟨_, rfl⟩
  have hj' : j < σw.length := by rw [← hw, wipe_length]; exact hj
  have hk' : k < σw.length := by rw [← hw, wipe_length]; exact hk
  have hxl : xs.length = ws.length := by rw [ht.len, List.length_map]
  refine c_list (fun i acc L' => ∃ rs : List Addr, acc = rs.map V.ref ∧ rs.length = i ∧ (∀ (i : Nat) a w, rs[i]? = some a → ws[i]? = some w → (a, HO.lst (w.2.map V.int)) ∈ c) ∧ i ≤ ws.length ∧ L' = L) hw (Wk.go ⟨[], rfl, rfl, (fun i a w h => by simp at h), Nat.zero_le _, rfl⟩) (fun i acc L' h => ?_) ?_ ?_
  · obtain ⟨_, _, _, _, _, rfl⟩ := h
    exact IsL.tl (IsL.at_ (At.mem hm hp))
  · rintro i acc x L' hi ⟨rs, rfl, hrl, hrs, hl, rfl⟩
    obtain ⟨⟨n, r⟩, t, a, hwi, rfl, m1, m2⟩ := ht.pair hi
    have hlt : i < ws.length := (List.getElem?_eq_some_iff.mp hwi).1
    refine s_htup (xs := [.int n, .ref a]) (IsT.at_ (At.tl (At.mem hm m1))) rfl ?_
    refine s_hcons (s_name (setAt_set _ _ _ hj') (s_hcons (s_name (setAt_set _ _ _ (by rw [List.length_set]; exact hk')) (s_hnil ?_))))
    refine s_lct (wipe2 hvs hw _ _) (s_yes ?_)
    rw [if_pos rfl]
    refine s_var (v := .ref a) (by rw [List.getElem?_set_self (by rw [List.length_set]; exact hk')]) ?_
    refine s_lcy (L5 := L') (by simp; omega) Lic.refl ⟨rs ++ [a], by simp, by simp [hrl], ?_, hlt, rfl⟩
    intro m a' w' h1 h2
    by_cases e : m < rs.length
    · rw [List.getElem?_append_left e] at h1
      exact hrs m a' w' h1 h2
    · rw [List.getElem?_append_right (by omega)] at h1
      have hm0 : m = i := by
        by_cases e2 : m - rs.length = 0
        · omega
        · obtain ⟨q, hq⟩ : ∃ q, m - rs.length = q + 1 := ⟨m - rs.length - 1, by omega⟩
          rw [hq] at h1
          simp at h1
      subst hm0
      rw [hrl, Nat.sub_self] at h1
      obtain rfl := Option.some.inj h1
      rw [hwi] at h2
      obtain rfl := Option.some.inj h2
      exact m2
  · rintro acc L' ⟨rs, rfl, hrl, hrs, _, rfl⟩
    exact kk D rs (by rw [hrl, hxl]) hrs
/-! ### pairs copied -/
theorem TelAll.mk {c : Chunk} : ∀ {xs : List V} {ds : List PyData}, xs.length = ds.length → (∀ (i : Nat) x d, xs[i]? = some x → ds[i]? = some d → Tel c x d) → TelAll c xs ds
  | [], [], _, _ => .nil
  | [], _ :: _, h, _ => by simp at h
  | _ :: _, [], h, _ => by simp at h
  | x :: xs, d :: ds, hl, h => .cons (h 0 x d rfl rfl) (TelAll.mk (by simpa using hl) fun i x d h1 h2 => h (i + 1) x d h1 h2)
theorem pairs_ldW {D : Addr} {ts as : List Addr} (hl : ts.length = ws.length) (hl2 : as.length = ws.length) : LdW (tupC D ts ws as ++ cellsL as (ws.map Prod.snd)) D ws := by
  refine ⟨ts.zip (List.zipWith (fun w a => HO.tup [V.int w.1, V.ref a]) ws as) ++ cellsL as (ws.map Prod.snd), ts.map V.ref, rfl, TelAll.mk (by simp [hl]) fun i x d hx hd => ?_⟩
  rw [List.getElem?_map] at hx hd
  obtain ⟨t, ht, rfl⟩ := Option.map_eq_some_iff.mp hx
  obtain ⟨w, hw, rfl⟩ := Option.map_eq_some_iff.mp hd
  have hi := (List.getElem?_eq_some_iff.mp hw).1
  have ha : as[i]? = some as[i] := List.getElem?_eq_getElem (by omega)
  exact Tel.dP (a := as[i]) (List.mem_append_left _ (zip_mem ht (by rw [List.getElem?_zipWith, hw, ha]))) (List.mem_append_right _ (cells_mem ha (by rw [List.getElem?_map, hw]; rfl)))
theorem LcR.unwk {W : LWk} {g : LTG} {tt : LTT} {te : LTE} {vs : List Nat} {D : Addr} (h : LcR W g tt te vs σ D L (fun v => Wk (Q v))) : LcR W g tt te vs σ D L Q := by
  obtain ⟨Pv, h0, hG, hs, hd⟩ := h
  refine ⟨Pv, h0, hG, hs, fun acc L p n => ?_⟩
  obtain ⟨L1, l1, L2, l2, q⟩ := hd acc L p n
  exact ⟨L2, l1.trans l2, q⟩
/-- [(n, list(r)) for n, r in ws], told as one chunk -/
theorem s_copyLW {i j k : Nat} {vs : List Nat} (hv : σ[i]? = some (some (.ref p))) (hm : c ∈ L) (ht : Tel c (.ref p) (dW ws)) (hz : ws.length ≤ 1000000) (hj : j < σ.length) (hk : k < σ.length) (hjk : j ≠ k) (hvs : vs = [j, k])
    (kk : ∀ D c, LdW c D ws → Wk (Q (.ref D)) (c :: L)) :
    lLc (kSeq K (lVar i)) (hTup K 2 (hCons (hName j) (hCons (hName k) hNil))) lYes (lTup (lCons (lVar j) (lCons (lCB (gList K) (lCons (lVar k) lNil)) lNil))) vs σ L Q := by
  obtain ⟨v, hv, a, xs, e, h⟩ := s_copyW (K := K) (Q := fun v => Wk (Q v)) hv hm ht hz hj hk hjk hvs fun D ts as h1 h2 => by
    obtain ⟨L5, l, q⟩ := kk D _ (pairs_ldW h1 h2)
    exact ⟨L5, Lic.trans (LicS.lic (LicS.splitA LicS.refl)) l, q⟩
  refine ⟨v, hv, a, xs, e, ?_⟩
  rcases h with ⟨h1, h2⟩ | ⟨h1, h2⟩
  · exact .inl ⟨h1, fun D hD => (h2 D hD).unwk⟩
  · exact .inr ⟨h1, fun D hD => (h2 D hD).unwk⟩
/-! ### comprehensions that build data -/
def TelP (ds : Nat → List PyData) (i : Nat) (L : Lg) : List V → Lg → Prop := fun acc L' => ∃ C, L' = C :: L ∧ TelAll C acc (ds i)
section
variable {gg : LTG} {tt : LTT} {te : LTE} {vw : List Nat} {Dl : Addr} {n : Nat} {σw : St} {acc : List V} {C : Chunk} {ds : Nat → List PyData} {i : Nat} {L4 L5 : Lg} {v : V} {d : PyData} {cs : List Chunk} {ms : List Int}
theorem a_telR (ds : Nat → List PyData) (h0 : ds 0 = []) (hw : wipe σ vw = σw)
    (hs : ∀ (i : Nat) (acc : List V) (C : Chunk) (Dl : Addr), i < n → acc.length = (ds i).length → TelAll C acc (ds i) → gg (.int (i : Int)) σw ([(Dl, .lst acc)] :: C :: L) (LcT tt te Dl acc (TelP ds (i + 1) L) σw vw))
    (hd : ∀ Dl c, LdD c Dl (ds n) → Wk (Q (.ref Dl)) (c :: L)) : ∀ Dl, Dl ∉ keys L → LcR (wkR 0 n) gg tt te vw σ Dl L Q := fun Dl _ => by
  refine c_range0 (fun i acc L' => TelP ds i L acc L') hw (Wk.by_ (LicS.lic (LicS.empty LicS.refl)) ⟨[], rfl, by rw [h0]; exact .nil⟩) ?_ ?_
  · rintro i acc L' hi ⟨C, rfl, ht⟩
    exact hs i acc C Dl hi ht.len ht
  · rintro acc L' ⟨C, rfl, ht⟩
    obtain ⟨L5, l, q⟩ := hd Dl ((Dl, .lst acc) :: C) ⟨C, acc, rfl, ht⟩
    exact ⟨L5, Lic.trans (LicS.lic (LicS.of_flat (by simp))) l, q⟩
theorem s_lcyD (hv : Tel cs.flatten v d) (hp : Pulls cs L4 L5) (l : LicS L5 ([(Dl, .lst acc)] :: C :: L)) (ht : TelAll C acc (ds i)) (hz : acc.length < 1000000) (e : ds (i + 1) = ds i ++ [d]) : LcY Dl acc (TelP ds (i + 1) L) v L4 := by
  refine s_lcy (L5 := (cs.flatten ++ C) :: L) hz (LicS.lic ?_) ⟨_, rfl, by rw [e]; exact TelAll.snoc (hv.mono fun x hx => List.mem_append_left _ hx) (ht.mono fun x hx => List.mem_append_right _ hx)⟩
  exact LicS.trans hp.lic (LicS.trans (LicS.cons l) (LicS.pull (.tl .hd) (LicS.splitA LicS.refl)))
theorem s_lcnD (l : LicS L4 ([(Dl, .lst acc)] :: C :: L)) (ht : TelAll C acc (ds i)) (e : ds (i + 1) = ds i) : LcN Dl acc (TelP ds (i + 1) L) L4 := s_lcn l.lic ⟨C, rfl, by rw [e]; exact ht⟩
theorem s_lcyT {r : List Int} (hv : IntsV xs r) (hp : Pull [(t, .tup xs)] L4 L5) (l : LicS L5 ([(Dl, .lst acc)] :: C :: L)) (ht : TelAll C acc (ds i)) (hz : acc.length < 1000000) (e : ds (i + 1) = ds i ++ [dT r]) : LcY Dl acc (TelP ds (i + 1) L) (.ref t) L4 := by
  have e' := hv.eq
  subst e'
  exact s_lcyD (cs := [[(t, .tup (r.map V.int))]]) (d := dT r) (Tel.tints (by simp)) (.cons hp .nil) l ht hz e
theorem s_lcyW {n : Int} {r : List Int} (hv : IntsV ys r) (hp : Pulls [[(t, .tup [.int n, .ref a])], [(a, .lst ys)]] L4 L5) (l : LicS L5 ([(Dl, .lst acc)] :: C :: L)) (ht : TelAll C acc (ds i)) (hz : acc.length < 1000000) (e : ds (i + 1) = ds i ++ [VM.dP (n, r)]) : LcY Dl acc (TelP ds (i + 1) L) (.ref t) L4 := by
  have e' := hv.eq
  subst e'
  exact s_lcyD (d := VM.dP (n, r)) (Tel.dP (a := a) (by simp) (by simp)) hp l ht hz e
end
/-! ### two lists of tuples joined, both given up -/
theorem s_add_ldT {Q : LVK} {c' : Chunk} {q : Addr} {ts us : List (List Int)} (h1 : LdT c p ts) (h2 : LdT c' q us) (p1 : Pull c L L1) (p2 : Pull c' L1 L2) (hz : ts.length + us.length ≤ 1000000) (k : ∀ r d, LdT d r (ts ++ us) → Wk (Q (.ref r)) (d :: L2)) : gAdd K (.ref p) (.ref q) L (fun v => Wk (Q v)) := by
  obtain ⟨C1, xs, e1, t1⟩ := h1
  obtain ⟨C2, ys, e2, t2⟩ := h2
  have hl1 := t1.len
  have hl2 := t2.len
  rw [List.length_map] at hl1 hl2
  refine s_add_l (xs := xs) (ys := ys) (At.mem p1.mem (by rw [e1]; exact List.mem_cons_self)) ?_ (Nat.le_trans (by omega : xs.length + ys.length ≤ 1000000) (by decide)) fun r => ?_
  · obtain ⟨L3, g1, g2⟩ := p1.sw p2
    exact At.mem g1.mem (by rw [e2]; exact List.mem_cons_self)
  · obtain ⟨L5, l, z⟩ := k r ((r, .lst (xs ++ ys)) :: (C1 ++ C2)) ⟨C1 ++ C2, xs ++ ys, rfl, by
      rw [List.map_append]
      have ap : ∀ {C : Chunk} {xs ys : List V} {ds es : List PyData}, TelAll C xs ds → TelAll C ys es → TelAll C (xs ++ ys) (ds ++ es) := by
        intro C xs ys ds es h k
        induction xs generalizing ds with
        | nil => cases h; exact k
        | cons x xs ih => cases h with | cons h1 h2 => exact .cons h1 (ih h2)
      exact ap (t1.mono fun x hx => List.mem_append_left _ hx) (t2.mono fun x hx => List.mem_append_right _ hx)⟩
    refine ⟨L5, Lic.trans (LicS.lic ?_) l, z⟩
    subst e1; subst e2
    refine LicS.split (LicS.pull .hd (LicS.splitA ?_))
    exact LicS.trans (LicS.pull p1 (LicS.pull p2 LicS.refl)) (LicS.src (LicS.skip (LicS.pull .hd (LicS.src (LicS.skip LicS.refl)))))
/-! ### pairs with rows of their own -/
def zipC (ts : List Addr) (ws : List (Int × List Int)) (as : List Addr) : Chunk := ts.zip (List.zipWith (fun w a => HO.tup [V.int w.1, V.ref a]) ws as)
def LdP (c : Chunk) (p : Addr) (ws : List (Int × List Int)) : Prop := ∃ ts as : List Addr, ts.length = ws.length ∧ as.length = ws.length ∧ c = (p, .lst (ts.map V.ref)) :: (zipC ts ws as ++ cellsL as (ws.map Prod.snd))
theorem LdP.nil {p : Addr} : LdP [(p, .lst [])] p [] := ⟨[], [], rfl, rfl, rfl⟩
theorem LdP.ldW (h : LdP c p ws) : LdW c p ws := by
  obtain ⟨ts, as, h1, h2, rfl⟩ := h
  exact pairs_ldW h1 h2
theorem LdP.to {ws' : List (Int × List Int)} (h : LdP c p ws) (e : ws' = ws) : LdP c p ws' := e ▸ h
theorem zipC_snoc {ts as : List Addr} {n : Int} {r : List Int} (h1 : ts.length = ws.length) (h2 : as.length = ws.length) : zipC (ts ++ [t]) (ws ++ [(n, r)]) (as ++ [a]) = zipC ts ws as ++ [(t, .tup [.int n, .ref a])] := by
  unfold zipC
  rw [List.zipWith_append (by omega), List.zip_append (by simp; omega)]
  rfl
/-- the tuple and its row join the others -/
theorem licP {ts as : List Addr} {n : Int} {r : List Int} {Z : Chunk} (h1 : ts.length = ws.length) (h2 : as.length = ws.length) : LicS ([(t, .tup [.int n, .ref a])] :: [(a, .lst (r.map V.int))] :: (zipC ts ws as ++ cellsL as (ws.map Prod.snd)) :: L) ((zipC (ts ++ [t]) (ws ++ [(n, r)]) (as ++ [a]) ++ cellsL (as ++ [a]) ((ws ++ [(n, r)]).map Prod.snd)) :: L) := by
  rw [zipC_snoc h1 h2, List.map_append]
  have e : cellsL (as ++ [a]) (List.map Prod.snd ws ++ List.map Prod.snd [(n, r)]) = cellsL as (ws.map Prod.snd) ++ [(a, .lst (r.map V.int))] := cells_snoc (by simp [h2])
  rw [e]
  refine LicS.splitA ?_
  refine LicS.trans (L' := (zipC ts ws as ++ cellsL as (ws.map Prod.snd)) :: [(t, .tup [.int n, .ref a])] :: [(a, .lst (r.map V.int))] :: L) (LicS.pull (.tl (.tl .hd)) (LicS.pull .hd (LicS.pull .hd LicS.refl))) ?_
  refine LicS.srcA ?_
  refine LicS.splitA ?_
  exact LicS.pull .hd (LicS.pull (.tl .hd) (LicS.splitA (LicS.pull .hd (LicS.pull .hd LicS.refl))))
theorem s_appP {n : Int} {r : List Int} (h : LdP c p ws) (hp : Pulls [[(t, .tup [.int n, .ref a])], [(a, .lst ys)]] L L1) (hc : Pull c L1 L2) (hv : IntsV ys r) (hz : ws.length < 1000000) (k : ∀ c', LdP c' p (ws ++ [(n, r)]) → Wk P (c' :: L2)) : gAppend (.ref p) [.ref t] L (fun _ => Wk P) := by
  have e := hv.eq
  subst e
  obtain ⟨ts, as, h1, h2, rfl⟩ := h
  obtain ⟨L3, g1, g2⟩ := hp.sw hc
  obtain ⟨L', w, q⟩ := Pull.wr (A := []) (o' := .lst ((ts.map V.ref) ++ [.ref t])) g1
  refine s_append w (by rw [List.length_map, h1]; exact hz) ?_
  obtain ⟨L5, l, z⟩ := k ((p, .lst ((ts ++ [t]).map V.ref)) :: (zipC (ts ++ [t]) (ws ++ [(n, r)]) (as ++ [a]) ++ cellsL (as ++ [a]) ((ws ++ [(n, r)]).map Prod.snd))) ⟨ts ++ [t], as ++ [a], by simp [h1], by simp [h2], rfl⟩
  refine ⟨L5, Lic.trans (LicS.lic ?_) l, z⟩
  cases g2 with
  | cons g3 g4 => cases g4 with
    | cons g5 g6 =>
      cases g6
      rw [List.map_append]
      refine LicS.split ?_
      refine LicS.trans (LicS.pull q (LicS.pull g3 (LicS.pull g5 LicS.refl))) ?_
      refine LicS.src (LicS.pull .hd ?_)
      refine LicS.trans (LicS.pull (.tl .hd) (LicS.pull (.tl .hd) (LicS.pull .hd LicS.refl))) ?_
      exact licP (Z := []) h1 h2
/-- a comprehension of pairs with rows of their own -/
def PairP (g : Nat → Int × List Int) (i : Nat) (L : Lg) : List V → Lg → Prop := fun acc L' => ∃ ts as : List Addr, acc = ts.map V.ref ∧ ts.length = i ∧ as.length = i ∧ L' = (zipC ts ((List.range i).map g) as ++ cellsL as (((List.range i).map g).map Prod.snd)) :: L
section
variable {gg : LTG} {tt : LTT} {te : LTE} {vw : List Nat} {Dl : Addr} {n : Nat} {σw : St}
theorem a_pairsP (g : Nat → Int × List Int) (hw : wipe σ vw = σw) (hz : n ≤ 1000000)
    (hs : ∀ (i : Nat) (ts as : List Addr) (Dl : Addr), i < n → ts.length = i → as.length = i → gg (.int (i : Int)) σw ([(Dl, .lst (ts.map V.ref))] :: (zipC ts ((List.range i).map g) as ++ cellsL as (((List.range i).map g).map Prod.snd)) :: L) (LcT tt te Dl (ts.map V.ref) (PairP g (i + 1) L) σw vw))
    (hd : ∀ Dl c, LdP c Dl ((List.range n).map g) → Wk (Q (.ref Dl)) (c :: L)) : ∀ Dl, Dl ∉ keys L → LcR (wkR 0 n) gg tt te vw σ Dl L Q := fun Dl _ => by
  refine c_range0 (fun i acc L' => PairP g i L acc L') hw (Wk.by_ (LicS.lic (LicS.empty LicS.refl)) ⟨[], [], rfl, rfl, rfl, rfl⟩) ?_ ?_
  · rintro i acc L' hi ⟨ts, as, rfl, h1, h2, rfl⟩
    exact hs i ts as Dl hi h1 h2
  · rintro acc L' ⟨ts, as, rfl, h1, h2, rfl⟩
    obtain ⟨L5, l, q⟩ := hd Dl _ ⟨ts, as, by simp [h1], by simp [h2], rfl⟩
    exact ⟨L5, Lic.trans (LicS.lic (LicS.split LicS.refl)) l, q⟩
theorem s_lcyP {g : Nat → Int × List Int} {i : Nat} {ts as : List Addr} {m : Int} {r : List Int} {L4 L5 : Lg} (hv : IntsV ys r) (h1 : ts.length = i) (h2 : as.length = i) (hz : i < 1000000) (e : g i = (m, r)) (hp : Pulls [[(t, .tup [.int m, .ref a])], [(a, .lst ys)]] L4 L5)
    (l : LicS L5 ([(Dl, .lst (ts.map V.ref))] :: (zipC ts ((List.range i).map g) as ++ cellsL as (((List.range i).map g).map Prod.snd)) :: L)) : LcY Dl (ts.map V.ref) (PairP g (i + 1) L) (.ref t) L4 := by
  have e' := hv.eq
  subst e'
  have el : (List.range (i + 1)).map g = (List.range i).map g ++ [(m, r)] := by rw [List.range_succ, List.map_append, ← e]; rfl
  refine s_lcy (by rw [List.length_map, h1]; exact hz) (L5 := (zipC (ts ++ [t]) ((List.range i).map g ++ [(m, r)]) (as ++ [a]) ++ cellsL (as ++ [a]) ((((List.range i).map g) ++ [(m, r)]).map Prod.snd)) :: L) (LicS.lic ?_) ⟨ts ++ [t], as ++ [a], by simp, by simp [h1], by simp [h2], by rw [el]⟩
  cases hp with
  | cons g3 g4 => cases g4 with
    | cons g5 g6 =>
      cases g6
      refine LicS.trans (LicS.pull g3 (LicS.pull g5 l)) ?_
      refine LicS.trans (L' := [(Dl, .lst (ts.map V.ref))] :: [(t, .tup [.int m, .ref a])] :: [(a, .lst (r.map V.int))] :: (zipC ts ((List.range i).map g) as ++ cellsL as (((List.range i).map g).map Prod.snd)) :: L) (LicS.pull (.tl (.tl .hd)) (LicS.pull .hd (LicS.pull .hd (LicS.pull .hd LicS.refl)))) ?_
      exact LicS.cons (licP (Z := []) (by simp [h1]) (by simp [h2]))
end
end
end VM

end

section
namespace VM
open PySem PySem.Spec L2
open PyProof.Rows hiding St

/-! ### joins where some slots change -/
section
variable {σ : St} {L : Lg} {t : LTS} {n0 : St → Lg → Prop} {r0 : LVK} {b0 c0 : St → Lg → Prop}
theorem sj_1 {k0 : Nat} (P : Lg → Prop) (h1 : t ⟨fun τ => Wk (SlW σ [k0] (fun _ => P) 0 τ), r0, b0, c0⟩ σ L) (h2 : ∀ a0 L', P L' → n0 ((wipe σ [k0]).set k0 a0) L') : lJoin t ⟨n0, r0, b0, c0⟩ σ L := ⟨_, h1, fun τ L' ⟨e, q⟩ => by
  obtain ⟨a0, rfl⟩ := unw1 e
  exact h2 a0 L' q⟩
theorem sjv_1 {k0 : Nat} (P : Option V → Lg → Prop) (h1 : t ⟨fun τ => Wk (SlV1 σ k0 (fun _ => P) 0 τ), r0, b0, c0⟩ σ L) (h2 : ∀ a0 L', P a0 L' → n0 ((wipe σ [k0]).set k0 a0) L') : lJoin t ⟨n0, r0, b0, c0⟩ σ L := ⟨_, h1, fun τ L' ⟨a0, e, q⟩ => by
  subst e
  exact h2 a0 L' q⟩
theorem sj_2 {k0 k1 : Nat} (P : Lg → Prop) (h1 : t ⟨fun τ => Wk (SlW σ [k0, k1] (fun _ => P) 0 τ), r0, b0, c0⟩ σ L) (h2 : ∀ a0 a1 L', P L' → n0 (((wipe σ [k0, k1]).set k0 a0).set k1 a1) L') : lJoin t ⟨n0, r0, b0, c0⟩ σ L := ⟨_, h1, fun τ L' ⟨e, q⟩ => by
  obtain ⟨a0, a1, rfl⟩ := unw2 e
  exact h2 a0 a1 L' q⟩
theorem sjv_2 {k0 k1 : Nat} (P : Option V → Option V → Lg → Prop) (h1 : t ⟨fun τ => Wk (SlV2 σ k0 k1 (fun _ => P) 0 τ), r0, b0, c0⟩ σ L) (h2 : ∀ a0 a1 L', P a0 a1 L' → n0 (((wipe σ [k0, k1]).set k0 a0).set k1 a1) L') : lJoin t ⟨n0, r0, b0, c0⟩ σ L := ⟨_, h1, fun τ L' ⟨a0, a1, e, q⟩ => by
  subst e
  exact h2 a0 a1 L' q⟩
theorem sj_3 {k0 k1 k2 : Nat} (P : Lg → Prop) (h1 : t ⟨fun τ => Wk (SlW σ [k0, k1, k2] (fun _ => P) 0 τ), r0, b0, c0⟩ σ L) (h2 : ∀ a0 a1 a2 L', P L' → n0 ((((wipe σ [k0, k1, k2]).set k0 a0).set k1 a1).set k2 a2) L') : lJoin t ⟨n0, r0, b0, c0⟩ σ L := ⟨_, h1, fun τ L' ⟨e, q⟩ => by
  obtain ⟨a0, a1, a2, rfl⟩ := unw3 e
  exact h2 a0 a1 a2 L' q⟩
theorem sjv_3 {k0 k1 k2 : Nat} (P : Option V → Option V → Option V → Lg → Prop) (h1 : t ⟨fun τ => Wk (SlV3 σ k0 k1 k2 (fun _ => P) 0 τ), r0, b0, c0⟩ σ L) (h2 : ∀ a0 a1 a2 L', P a0 a1 a2 L' → n0 ((((wipe σ [k0, k1, k2]).set k0 a0).set k1 a1).set k2 a2) L') : lJoin t ⟨n0, r0, b0, c0⟩ σ L := ⟨_, h1, fun τ L' ⟨a0, a1, a2, e, q⟩ => by
  subst e
  exact h2 a0 a1 a2 L' q⟩
theorem sj_4 {k0 k1 k2 k3 : Nat} (P : Lg → Prop) (h1 : t ⟨fun τ => Wk (SlW σ [k0, k1, k2, k3] (fun _ => P) 0 τ), r0, b0, c0⟩ σ L) (h2 : ∀ a0 a1 a2 a3 L', P L' → n0 (((((wipe σ [k0, k1, k2, k3]).set k0 a0).set k1 a1).set k2 a2).set k3 a3) L') : lJoin t ⟨n0, r0, b0, c0⟩ σ L := ⟨_, h1, fun τ L' ⟨e, q⟩ => by
  obtain ⟨a0, a1, a2, a3, rfl⟩ := unw4 e
  exact h2 a0 a1 a2 a3 L' q⟩
theorem sjv_4 {k0 k1 k2 k3 : Nat} (P : Option V → Option V → Option V → Option V → Lg → Prop) (h1 : t ⟨fun τ => Wk (SlV4 σ k0 k1 k2 k3 (fun _ => P) 0 τ), r0, b0, c0⟩ σ L) (h2 : ∀ a0 a1 a2 a3 L', P a0 a1 a2 a3 L' → n0 (((((wipe σ [k0, k1, k2, k3]).set k0 a0).set k1 a1).set k2 a2).set k3 a3) L') : lJoin t ⟨n0, r0, b0, c0⟩ σ L := ⟨_, h1, fun τ L' ⟨a0, a1, a2, a3, e, q⟩ => by
  subst e
  exact h2 a0 a1 a2 a3 L' q⟩
theorem sj_5 {k0 k1 k2 k3 k4 : Nat} (P : Lg → Prop) (h1 : t ⟨fun τ => Wk (SlW σ [k0, k1, k2, k3, k4] (fun _ => P) 0 τ), r0, b0, c0⟩ σ L) (h2 : ∀ a0 a1 a2 a3 a4 L', P L' → n0 ((((((wipe σ [k0, k1, k2, k3, k4]).set k0 a0).set k1 a1).set k2 a2).set k3 a3).set k4 a4) L') : lJoin t ⟨n0, r0, b0, c0⟩ σ L := ⟨_, h1, fun τ L' ⟨e, q⟩ => by
  obtain ⟨a0, a1, a2, a3, a4, rfl⟩ := unw5 e
  exact h2 a0 a1 a2 a3 a4 L' q⟩
theorem sjv_5 {k0 k1 k2 k3 k4 : Nat} (P : Option V → Option V → Option V → Option V → Option V → Lg → Prop) (h1 : t ⟨fun τ => Wk (SlV5 σ k0 k1 k2 k3 k4 (fun _ => P) 0 τ), r0, b0, c0⟩ σ L) (h2 : ∀ a0 a1 a2 a3 a4 L', P a0 a1 a2 a3 a4 L' → n0 ((((((wipe σ [k0, k1, k2, k3, k4]).set k0 a0).set k1 a1).set k2 a2).set k3 a3).set k4 a4) L') : lJoin t ⟨n0, r0, b0, c0⟩ σ L := ⟨_, h1, fun τ L' ⟨a0, a1, a2, a3, a4, e, q⟩ => by
  subst e
  exact h2 a0 a1 a2 a3 a4 L' q⟩
theorem sj_6 {k0 k1 k2 k3 k4 k5 : Nat} (P : Lg → Prop) (h1 : t ⟨fun τ => Wk (SlW σ [k0, k1, k2, k3, k4, k5] (fun _ => P) 0 τ), r0, b0, c0⟩ σ L) (h2 : ∀ a0 a1 a2 a3 a4 a5 L', P L' → n0 (((((((wipe σ [k0, k1, k2, k3, k4, k5]).set k0 a0).set k1 a1).set k2 a2).set k3 a3).set k4 a4).set k5 a5) L') : lJoin t ⟨n0, r0, b0, c0⟩ σ L := ⟨_, h1, fun τ L' ⟨e, q⟩ => by
  obtain ⟨a0, a1, a2, a3, a4, a5, rfl⟩ := unw6 e
  exact h2 a0 a1 a2 a3 a4 a5 L' q⟩
theorem sjv_6 {k0 k1 k2 k3 k4 k5 : Nat} (P : Option V → Option V → Option V → Option V → Option V → Option V → Lg → Prop) (h1 : t ⟨fun τ => Wk (SlV6 σ k0 k1 k2 k3 k4 k5 (fun _ => P) 0 τ), r0, b0, c0⟩ σ L) (h2 : ∀ a0 a1 a2 a3 a4 a5 L', P a0 a1 a2 a3 a4 a5 L' → n0 (((((((wipe σ [k0, k1, k2, k3, k4, k5]).set k0 a0).set k1 a1).set k2 a2).set k3 a3).set k4 a4).set k5 a5) L') : lJoin t ⟨n0, r0, b0, c0⟩ σ L := ⟨_, h1, fun τ L' ⟨a0, a1, a2, a3, a4, a5, e, q⟩ => by
  subst e
  exact h2 a0 a1 a2 a3 a4 a5 L' q⟩
theorem sj_7 {k0 k1 k2 k3 k4 k5 k6 : Nat} (P : Lg → Prop) (h1 : t ⟨fun τ => Wk (SlW σ [k0, k1, k2, k3, k4, k5, k6] (fun _ => P) 0 τ), r0, b0, c0⟩ σ L) (h2 : ∀ a0 a1 a2 a3 a4 a5 a6 L', P L' → n0 ((((((((wipe σ [k0, k1, k2, k3, k4, k5, k6]).set k0 a0).set k1 a1).set k2 a2).set k3 a3).set k4 a4).set k5 a5).set k6 a6) L') : lJoin t ⟨n0, r0, b0, c0⟩ σ L := ⟨_, h1, fun τ L' ⟨e, q⟩ => by
  obtain ⟨a0, a1, a2, a3, a4, a5, a6, rfl⟩ := unw7 e
  exact h2 a0 a1 a2 a3 a4 a5 a6 L' q⟩
theorem sjv_7 {k0 k1 k2 k3 k4 k5 k6 : Nat} (P : Option V → Option V → Option V → Option V → Option V → Option V → Option V → Lg → Prop) (h1 : t ⟨fun τ => Wk (SlV7 σ k0 k1 k2 k3 k4 k5 k6 (fun _ => P) 0 τ), r0, b0, c0⟩ σ L) (h2 : ∀ a0 a1 a2 a3 a4 a5 a6 L', P a0 a1 a2 a3 a4 a5 a6 L' → n0 ((((((((wipe σ [k0, k1, k2, k3, k4, k5, k6]).set k0 a0).set k1 a1).set k2 a2).set k3 a3).set k4 a4).set k5 a5).set k6 a6) L') : lJoin t ⟨n0, r0, b0, c0⟩ σ L := ⟨_, h1, fun τ L' ⟨a0, a1, a2, a3, a4, a5, a6, e, q⟩ => by
  subst e
  exact h2 a0 a1 a2 a3 a4 a5 a6 L' q⟩
end
end VM

end

section
namespace VM
open PySem PySem.Spec L2
open PyProof.Rows hiding St

/-! ### a new dict, d.get(k, x) -/
section
variable {X : Cx} {o e f : Expr} {apos cpos pos : Pos} {ta tb tc : LTE} {σ : St} {L : Lg} {Q : LVK}
def lDict0 : LTE := fun _ L Q => ∀ p, p ∉ keys L → Q (.ref p) ([(p, .dK [])] :: L)
theorem ldict0 : LE X (.Dict [] [] pos) lDict0 := by
  refine PE.imp pe_dnewK fun σ H Q h => ?_
  obtain ⟨L, QL, hL, h, k⟩ := h
  exact fun p hp => k _ _ _ (h p (hL.fresh hp)) (hL.new hp)
theorem s_dict0 (k : ∀ p, Q (.ref p) ([(p, .dK [])] :: L)) : lDict0 σ L Q := fun p _ => k p
def DgZ (a : Addr) (k : Int) (Q : LVK) : LVK := fun z L3 => ∃ kvs, At L3 a (.dK kvs) ∧ Q ((valV kvs (.inl k)).getD z) L3
def DgY (a : Addr) (tc : LTE) (σ : St) (Q : LVK) : LVK := fun y L2 => ∃ k, y = .int k ∧ tc σ L2 (DgZ a k Q)
def DgK (tb tc : LTE) (σ : St) (Q : LVK) : LVK := fun x L1 => ∃ a kvs, x = .ref a ∧ At L1 a (.dK kvs) ∧ tb σ L1 (DgY a tc σ Q)
def lDGet2 (ta tb tc : LTE) : LTE := fun σ L Q => ta σ L (DgK tb tc σ Q)
theorem ldget2 (hu : X.A.units + 64 < cLine) (ho : LE X o ta) (he : LE X e tb) (hf : LE X f tc) (m : M2 X o "get" apos e f cpos := by exact ⟨rfl, rfl, rfl, rfl⟩) : LE X (.Call (.Attribute o "get" apos) [e, f] [] cpos) (lDGet2 ta tb tc) := by
  refine PE.imp (pe_dget2 (Nat.lt_of_le_of_lt (Nat.add_le_add_left (by decide) _) hu) ho he hf m) fun σ H Q h => ?_
  obtain ⟨L, QL, hL, h, k⟩ := h
  refine ⟨L, _, hL, h, fun x L1 H1 ⟨a, kvs, e1, h1, h2⟩ hL1 => ⟨a, e1, .inl ⟨kvs, .inl (h1 H1 hL1)⟩, L1, _, hL1, h2, fun y L2 H2 ⟨i, e2, h3⟩ hL2 => ⟨L2, _, hL2, h3, fun z L3 H3 ⟨kv3, h4, q⟩ hL3 => ⟨_, by subst e2; exact DGet.k (k := .inl i) (h4 H3 hL3), k _ _ _ q hL3⟩⟩⟩⟩
variable {a : Addr} {kvs : List (Key × V)} {i : Int} {z : V}
instance j_dget : S1 (lDGet2 ta tb tc σ L Q) (ta σ L (DgK tb tc σ Q)) := ⟨id⟩
theorem s_dgk (h : At L a (.dK kvs)) (k : tb σ L (DgY a tc σ Q)) : DgK tb tc σ Q (.ref a) L := ⟨a, kvs, rfl, h, k⟩
instance j_dgy : S1 (DgY a tc σ Q (.int i) L) (tc σ L (DgZ a i Q)) := ⟨fun h => ⟨i, rfl, h⟩⟩
theorem s_dgz (h : At L a (.dK kvs)) (k : Q ((valV kvs (.inl i)).getD z) L) : DgZ a i Q z L := ⟨kvs, h, k⟩
/-! list(d), sorted(d) -/
def gListD : LRC := fun xs L Q => ∃ (a : Addr) (kvs : List (Key × V)), xs = [.ref a] ∧ At L a (.dK kvs) ∧ ∀ p, p ∉ keys L → Q (.ref p) ([(p, .lst (kvs.map fun kv => kV kv.1))] :: L)
theorem lk_listD {X : Cx} (hc : X.calm = true := by rfl) : CallL X (.type "list") gListD := CallR.imp (call_listD hc) fun xs H Q ⟨L, QL, hL, ⟨a, kvs, e, h1, h2⟩, k⟩ => ⟨a, kvs, e, .inl (h1 H hL), fun p hp => k _ _ _ (h2 p (hL.fresh hp)) (hL.new hp)⟩
def gSortedD : LRC := fun xs L Q => ∃ (a : Addr) (kvs : List (Key × V)) (ks : List Int), xs = [.ref a] ∧ At L a (.dK kvs) ∧ kvs.map (·.1) = ks.map Sum.inl ∧ ks.length < 64 ∧ ∀ (ys : List Int) (p : Addr), ys.Perm ks → ys.Pairwise (· ≤ ·) → p ∉ keys L → Q (.ref p) ([(p, .lst (ys.map V.int))] :: L)
theorem lk_sortedD {X : Cx} (hc : X.calm = true := by rfl) : CallL X (.builtin "sorted") gSortedD := CallR.imp (call_sortedDI hc) fun xs H Q ⟨L, QL, hL, ⟨a, kvs, ks, e, h1, h2, h3, h4⟩, k⟩ => ⟨a, kvs, ks, e, .inl (h1 H hL), h2, h3, fun ys p p1 p2 hp => k _ _ _ (h4 ys p p1 p2 (hL.fresh hp)) (hL.new hp)⟩
theorem s_listD (h : At L a (.dK kvs)) (k : ∀ p, Q (.ref p) ([(p, .lst (kvs.map fun kv => kV kv.1))] :: L)) : gListD [.ref a] L Q := ⟨a, kvs, rfl, h, fun p _ => k p⟩
theorem s_sortedD {ks : List Int} (h : At L a (.dK kvs)) (e : kvs.map (·.1) = ks.map Sum.inl) (hz : ks.length < 64) (k : ∀ (ys : List Int) (p : Addr), ys.Perm ks → ys.Pairwise (· ≤ ·) → Q (.ref p) ([(p, .lst (ys.map V.int))] :: L)) : gSortedD [.ref a] L Q := ⟨a, kvs, ks, rfl, h, e, hz, fun ys p p1 p2 _ => k ys p p1 p2⟩
/-! a filter that keeps nothing -/
theorem a_dropL {K : PySem.W.Frag} {p : Addr} {xs : List V} {gg : LTG} {tt : LTT} {te : LTE} {vw : List Nat} {σw : St} (hx : IsL K L p xs) (hw : wipe σ vw = σw)
    (hs : ∀ (x : V) (Dl : Addr), x ∈ xs → gg x σw ([(Dl, .lst [])] :: L) (LcT tt te Dl [] (AccN L) σw vw))
    (hd : ∀ Dl, Wk (Q (.ref Dl)) ([(Dl, .lst [])] :: L)) : ∀ Dl, Dl ∉ keys L → LcR (wkL K p xs) gg tt te vw σ Dl L Q := fun Dl _ => by
  refine c_list (fun i acc L' => AccN L acc L') hw (Wk.go ⟨rfl, rfl⟩) (fun i acc L' h => ?_) ?_ ?_
  · rw [h.2]; exact IsL.tl hx
  · rintro i acc x L' hi ⟨rfl, rfl⟩
    exact hs x Dl (List.mem_of_getElem? hi)
  · rintro acc L' ⟨rfl, rfl⟩
    exact hd Dl
theorem a_dropD {K : PySem.W.Frag} {p : Addr} {c : Chunk} {ts : List (List Int)} {xs : List V} {gg : LTG} {tt : LTT} {te : LTE} {vw : List Nat} {σw : St} (hm : c ∈ L) (hp : (p, HO.lst xs) ∈ c) (ht : TelAll c xs (ts.map dT)) (hw : wipe σ vw = σw)
    (hs : ∀ (r : List Int) (t Dl : Addr), r ∈ ts → (t, HO.tup (r.map V.int)) ∈ c → gg (.ref t) σw ([(Dl, .lst [])] :: L) (LcT tt te Dl [] (AccN L) σw vw))
    (hd : ∀ Dl, Wk (Q (.ref Dl)) ([(Dl, .lst [])] :: L)) : ∀ Dl, Dl ∉ keys L → LcR (wkL K p xs) gg tt te vw σ Dl L Q :=
  a_dropL (IsL.at_ (At.mem hm hp)) hw (fun x Dl hx => by
    obtain ⟨i, hi⟩ := List.getElem?_of_mem hx
    obtain ⟨r, t, e1, rfl, m⟩ := ht.tup hi
    exact hs r t Dl (List.mem_of_getElem? e1) m) hd
theorem adr_cut {as : List Addr} {lo hi : Int} {i : Nat} (h0 : 0 ≤ lo) (h1 : lo ≤ hi) (h2 : (i : Int) < hi - lo) : adrAt (cutG as (some lo) (some hi)) (i : Int) = adrAt as (lo + (i : Int)) := by
  rw [cutG_lohi h0 (by omega)]
  unfold adrAt
  simp only [List.getD_eq_getElem?_getD, List.getElem?_take, List.getElem?_drop]
  rw [if_pos (by omega), show lo.toNat + (i : Int).toNat = (lo + (i : Int)).toNat by omega]
theorem cut_len {α : Type} {xs : List α} {lo hi : Int} (h0 : 0 ≤ lo) (h1 : lo ≤ hi) (h2 : hi ≤ xs.length) : (cutG xs (some lo) (some hi)).length = (hi - lo).toNat := by
  rw [cutG_lohi h0 (by omega), List.length_take, List.length_drop]
  omega
/-! comprehensions over a volume, over a list of tuples -/
section
variable {K : PySem.W.Frag} {p : Addr} {as : List Addr} {rows ts : List (List Int)} {c : Chunk} {xs : List V} {gg : LTG} {tt : LTT} {te : LTE} {vw : List Nat} {σw : St}
theorem range_rows {β : Type} (g : List Int → β) : ((List.range rows.length).map fun i : Nat => g (rowAt rows (i : Int))) = rows.map g := by
  apply List.ext_getElem?
  intro j
  rw [List.getElem?_map, List.getElem?_map]
  by_cases h : j < rows.length
  · rw [List.getElem?_range h, List.getElem?_eq_getElem h]
    simp only [Option.map_some]
    unfold rowAt
    rw [List.getD_eq_getElem?_getD, Int.toNat_natCast, List.getElem?_eq_getElem h]
    rfl
  · rw [List.getElem?_eq_none (by simpa using h), List.getElem?_eq_none (by omega)]
    rfl
theorem a_intsV (g : List Int → Int) (hm : volC p as rows ∈ L) (hl : as.length = rows.length) (hw : wipe σ vw = σw) (hz : rows.length ≤ 1000000)
    (hs : ∀ (i : Nat) (acc : List V) (Dl : Addr), i < as.length → acc.length < 1000000 → gg (.ref (adrAt as (i : Int))) σw ([(Dl, .lst acc)] :: L) (LcT tt te Dl acc (AccI acc (.int (g (rowAt rows (i : Int)))) L) σw vw))
    (hd : ∀ Dl, Wk (Q (.ref Dl)) ([(Dl, .lst ((rows.map g).map V.int))] :: L)) : ∀ Dl, Dl ∉ keys L → LcR (wkL K p (as.map V.ref)) gg tt te vw σ Dl L Q := fun Dl _ => by
  refine c_refs (fun i acc L' => acc = ((List.range i).map fun i : Nat => g (rowAt rows (i : Int))).map V.int ∧ L' = L) hw (Wk.go ⟨rfl, rfl⟩) (fun i acc L' h => ?_) ?_ ?_
  · rw [h.2]; exact IsL.tl (IsL.at_ (vol_top hm))
  · rintro i acc L' hi ⟨rfl, rfl⟩
    have := hs i (((List.range i).map fun i : Nat => g (rowAt rows (i : Int))).map V.int) Dl hi (by simp; omega)
    have e : AccI (((List.range i).map fun i : Nat => g (rowAt rows (i : Int))).map V.int) (.int (g (rowAt rows (i : Int)))) L' = fun acc' L'' => acc' = ((List.range (i + 1)).map fun i : Nat => g (rowAt rows (i : Int))).map V.int ∧ L'' = L' := by
      funext a b
      unfold AccI
      rw [List.range_succ, List.map_append, List.map_append]; rfl
    rw [e] at this
    exact this
  · rintro acc L' ⟨rfl, rfl⟩
    rw [hl, range_rows]
    exact hd Dl
theorem a_rowsV (g : List Int → List Int) (hm : volC p as rows ∈ L) (hl : as.length = rows.length) (hw : wipe σ vw = σw)
    (hs : ∀ (i : Nat) (bs : List Addr) (Dl : Addr), i < as.length → bs.length = i → gg (.ref (adrAt as (i : Int))) σw ([(Dl, .lst (bs.map V.ref))] :: cellsL bs ((List.range i).map fun i : Nat => g (rowAt rows (i : Int))) :: L) (LcT tt te Dl (bs.map V.ref) (RowsP (fun i : Nat => g (rowAt rows (i : Int))) (i + 1) L) σw vw))
    (hd : ∀ Dl bs, bs.length = (rows.map g).length → Wk (Q (.ref Dl)) (volC Dl bs (rows.map g) :: L)) : ∀ Dl, Dl ∉ keys L → LcR (wkL K p (as.map V.ref)) gg tt te vw σ Dl L Q := fun Dl _ => by
  refine c_refs (fun i acc L' => ∃ bs : List Addr, acc = bs.map V.ref ∧ bs.length = i ∧ L' = cellsL bs ((List.range i).map fun i : Nat => g (rowAt rows (i : Int))) :: L) hw (Wk.by_ lic_cells_nil ⟨[], rfl, rfl, rfl⟩) (fun i acc L' h => ?_) ?_ ?_
  · obtain ⟨bs, _, _, rfl⟩ := h
    exact IsL.tl (IsL.tl (IsL.at_ (vol_top hm)))
  · rintro i acc L' hi ⟨bs, rfl, hb, rfl⟩
    exact hs i bs Dl hi hb
  · rintro acc L' ⟨bs, rfl, hb, rfl⟩
    rw [hl, range_rows]
    obtain ⟨L5, l, q⟩ := hd Dl bs (by rw [List.length_map]; omega)
    exact ⟨L5, Lic.trans lic_vol l, q⟩
theorem a_intsT (g : List Int → Int) (hm : c ∈ L) (hp : (p, HO.lst xs) ∈ c) (ht : TelAll c xs (ts.map dT)) (hw : wipe σ vw = σw) (hz : ts.length ≤ 1000000)
    (hs : ∀ (r : List Int) (t : Addr) (acc : List V) (Dl : Addr), r ∈ ts → (t, HO.tup (r.map V.int)) ∈ c → acc.length < 1000000 → gg (.ref t) σw ([(Dl, .lst acc)] :: L) (LcT tt te Dl acc (AccI acc (.int (g r)) L) σw vw))
    (hd : ∀ Dl, Wk (Q (.ref Dl)) ([(Dl, .lst ((ts.map g).map V.int))] :: L)) : ∀ Dl, Dl ∉ keys L → LcR (wkL K p xs) gg tt te vw σ Dl L Q := fun Dl _ => by
  have hxl : xs.length = ts.length := by rw [ht.len, List.length_map]
  refine c_list (fun i acc L' => acc = ((ts.take i).map g).map V.int ∧ i ≤ ts.length ∧ L' = L) hw (Wk.go ⟨rfl, Nat.zero_le _, rfl⟩) (fun i acc L' h => ?_) ?_ ?_
  · rw [h.2.2]; exact IsL.tl (IsL.at_ (At.mem hm hp))
  · rintro i acc x L' hi ⟨rfl, hil, rfl⟩
    obtain ⟨r, t, e1, rfl, m⟩ := ht.tup hi
    have hlt : i < ts.length := (List.getElem?_eq_some_iff.mp e1).1
    have := hs r t (((ts.take i).map g).map V.int) Dl (List.mem_of_getElem? e1) m (by simp; omega)
    have e : AccI (((ts.take i).map g).map V.int) (.int (g r)) L' = fun acc' L'' => acc' = ((ts.take (i + 1)).map g).map V.int ∧ i + 1 ≤ ts.length ∧ L'' = L' := by
      funext a b
      unfold AccI
      have h1 : i + 1 ≤ ts.length := hlt
      rw [List.take_succ, e1, List.map_append, List.map_append]
      simp [h1]
    rw [e] at this
    exact this
  · rintro acc L' ⟨rfl, _, rfl⟩
    rw [hxl, List.take_length]
    exact hd Dl
end
/-! x in l, of data of any depth -/
def gInD (K : PySem.W.Frag) (neg : Bool) : LR2 := fun x y L Q => ∃ d ds, DpL K L x d ∧ DpL K L y (.list ds) ∧ SeqAt.shaped d = true ∧ SeqAt.shaped (.list ds) = true ∧ Q (.bl (if neg then !(ds.any fun z => PyData.eqv z d) else ds.any fun z => PyData.eqv z d)) L
theorem kd_in {X : Cx} (K : PySem.W.Frag) (hu : X.A.units + 65 < cLine) (h : X.K = K := by rfl) : OpL X (compareOp .In) (gInD K false) := by
  subst h
  exact OpR.imp (L2.op_inD hu) fun x y H Q ⟨L, QL, hL, ⟨d, ds, h1, h2, h3, h4, h5⟩, k⟩ => ⟨d, ds, h1 H hL, h2 H hL, h3, h4, k _ _ _ h5 hL⟩
theorem kd_notIn {X : Cx} (K : PySem.W.Frag) (hu : X.A.units + 65 < cLine) (h : X.K = K := by rfl) : OpL X (compareOp .NotIn) (gInD K true) := by
  subst h
  exact OpR.imp (L2.op_notInD hu) fun x y H Q ⟨L, QL, hL, ⟨d, ds, h1, h2, h3, h4, h5⟩, k⟩ => ⟨d, ds, h1 H hL, h2 H hL, h3, h4, k _ _ _ h5 hL⟩
theorem units65 {k : Nat} {A : Around} (r : Room k A) : A.units + 65 < cLine := by have := r.un; omega
section
variable {K : PySem.W.Frag} {p q : Addr} {as : List Addr} {rows ts : List (List Int)} {ns : List Int} {c : Chunk} {xs : List V}
theorem any_dI (ns : List Int) : ∀ rows : List (List Int), ((rows.map dI).any fun z => PyData.eqv z (dI ns)) = decide (ns ∈ rows)
  | [] => by simp
  | r :: rows => by
    rw [List.map_cons, List.any_cons, any_dI ns rows, eqv_dI]
    by_cases e : r = ns
    · subst e; simp
    · have e' : ¬ ns = r := fun z => e z.symm
      simp [e, e']
theorem any_dT (ns : List Int) : ∀ ts : List (List Int), ((ts.map dT).any fun z => PyData.eqv z (dT ns)) = decide (ns ∈ ts)
  | [] => by simp
  | r :: ts => by
    rw [List.map_cons, List.any_cons, any_dT ns ts, eqv_dT]
    by_cases e : r = ns
    · subst e; simp
    · have e' : ¬ ns = r := fun z => e z.symm
      simp [e, e']
theorem s_ninD_R (h1 : IsL K L q xs) (v : IntsV xs ns) (hm : volC p as rows ∈ L) (hl : as.length = rows.length) (k : Q (.bl (!decide (ns ∈ rows))) L) : gInD K true (.ref q) (.ref p) L Q :=
  ⟨dI ns, rows.map dI, DpL.ints (v.eq ▸ h1), DpL.vol hm hl, shaped_nb (nb_dI _), shaped_nb (nb_dR _), by rw [any_dI]; exact k⟩
theorem s_ninD_T (h1 : IsT K L q xs) (v : IntsV xs ns) (h : LdT c p ts) (hm : c ∈ L) (k : Q (.bl (!decide (ns ∈ ts))) L) : gInD K true (.ref q) (.ref p) L Q :=
  ⟨dT ns, ts.map dT, DpL.tints (v.eq ▸ h1), DpL.ldT h hm, shaped_nb (nb_dT _), shaped_nb (nb_dTs _), by rw [any_dT]; exact k⟩
theorem s_sl_ti {lo hi : Option Int} (h : IsT K L p xs) (v : IntsV xs ns) (hn : ¬ (HT.sIx ns.length 0 lo = 0 ∧ HT.sIx ns.length ns.length hi = ns.length)) (k : ∀ r, Q (.ref r) ([(r, .tup ((cutG ns lo hi).map V.int))] :: L)) : gSl K (.ref p) lo hi L Q := by
  have e := v.eq
  subst e
  exact s_sl_t h (by rw [List.length_map]; exact hn) (fun r => by rw [cutV_map]; exact k r)
theorem s_add_ti {ys : List V} {ms : List Int} (h1 : IsT K L p xs) (h2 : IsT K L q ys) (v1 : IntsV xs ns) (v2 : IntsV ys ms) (n1 : ns ≠ []) (n2 : ms ≠ []) (hz : ns.length + ms.length ≤ 1000000) (k : ∀ r, Q (.ref r) ([(r, .tup ((ns ++ ms).map V.int))] :: L)) : gAdd K (.ref p) (.ref q) L Q := by
  have e1 := v1.eq
  have e2 := v2.eq
  subst e1; subst e2
  refine s_add_t h1 h2 (by simpa using n1) (by simpa using n2) (by simp only [List.length_map]; exact Nat.le_trans hz (by decide)) fun r => ?_
  rw [← List.map_append]
  exact k r
end
end
end VM

end

section
namespace VM
open PySem PySem.Spec L2
open PyProof.Rows hiding St

/-! ### filters over a range, over a volume -/
section
variable {K : PySem.W.Frag} {σ σw : St} {L : Lg} {Q : LVK} {p : Addr} {as : List Addr} {rows : List (List Int)} {gg : LTG} {tt : LTT} {te : LTE} {vw : List Nat} {lo : Int} {n : Nat}
def rngL (lo : Int) (n : Nat) : List Int := (List.range n).map fun i : Nat => lo + (i : Int)
theorem rngL_succ {lo : Int} {n : Nat} : rngL lo (n + 1) = rngL lo n ++ [lo + (n : Int)] := by
  unfold rngL
  rw [List.range_succ, List.map_append]
  rfl
theorem rngL_len {lo : Int} {n : Nat} : (rngL lo n).length = n := by unfold rngL; simp
theorem mem_rngL {lo : Int} {n : Nat} {x : Int} : x ∈ rngL lo n ↔ lo ≤ x ∧ x < lo + n := by
  unfold rngL
  rw [List.mem_map]
  constructor
  · rintro ⟨i, hi, rfl⟩
    rw [List.mem_range] at hi
    omega
  · rintro ⟨h1, h2⟩
    exact ⟨(x - lo).toNat, List.mem_range.mpr (by omega), by omega⟩
theorem a_filtN (f : Int → Bool) (hw : wipe σ vw = σw) (hz : n ≤ 1000000)
    (hs : ∀ (i : Nat) (acc : List V) (Dl : Addr), i < n → acc.length < 1000000 → gg (.int (lo + i)) σw ([(Dl, .lst acc)] :: L) (LcT tt te Dl acc (AccB acc (f (lo + i)) (.int (lo + i)) L) σw vw))
    (hd : ∀ Dl, Wk (Q (.ref Dl)) ([(Dl, .lst (((rngL lo n).filter f).map V.int))] :: L)) : ∀ Dl, Dl ∉ keys L → LcR (wkR lo n) gg tt te vw σ Dl L Q := fun Dl _ => by
  refine c_range (fun i acc L' => acc = ((rngL lo i).filter f).map V.int ∧ L' = L) hw (Wk.go ⟨rfl, rfl⟩) ?_ ?_
  · rintro i acc L' hi ⟨rfl, rfl⟩
    have hle : ((rngL lo i).filter f).length ≤ i := Nat.le_trans (List.length_filter_le _ _) (by rw [rngL_len]; exact Nat.le_refl _)
    have := hs i (((rngL lo i).filter f).map V.int) Dl hi (by rw [List.length_map]; omega)
    have e : AccB (((rngL lo i).filter f).map V.int) (f (lo + i)) (.int (lo + i)) L' = fun acc' L'' => acc' = ((rngL lo (i + 1)).filter f).map V.int ∧ L'' = L' := by
      funext a b
      unfold AccB
      rw [rngL_succ]
      cases hf : f (lo + i) <;> simp [hf]
    rw [e] at this
    exact this
  · rintro acc L' ⟨rfl, rfl⟩
    exact hd Dl
/-- the rows of a volume that pass a test: their addresses -/
def FiltV (f : List Int → Bool) (rows : List (List Int)) (i : Nat) (L : Lg) : List V → Lg → Prop := fun acc L' => ∃ bs : List Addr, acc = bs.map V.ref ∧ bs.length = ((rows.take i).filter f).length ∧ i ≤ rows.length ∧ L' = L
theorem filtV_take (f : List Int → Bool) {i : Nat} (hi : i < rows.length) : (rows.take (i + 1)).filter f = (rows.take i).filter f ++ if f (rowAt rows (i : Int)) = true then [rowAt rows (i : Int)] else [] := by
  have eg : rows[i]? = some (rowAt rows (i : Int)) := by
    have := get_row (rows := rows) (j := (i : Int)) (by omega) (by omega)
    simpa using this
  rw [List.take_succ, eg, List.filter_append]
  cases hf : f (rowAt rows (i : Int)) <;> simp [hf]
theorem s_lcyF {f : List Int → Bool} {i : Nat} {bs : List Addr} {a Dl : Addr} {L4 : Lg} (hc : f (rowAt rows (i : Int)) = true) (hb : bs.length = ((rows.take i).filter f).length) (hi : i < rows.length) (hz : rows.length ≤ 1000000) (l : Lic L4 ([(Dl, .lst (bs.map V.ref))] :: L)) : LcY Dl (bs.map V.ref) (FiltV f rows (i + 1) L) (.ref a) L4 := by
  have hle : ((rows.take i).filter f).length ≤ i := Nat.le_trans (List.length_filter_le _ _) (by simp; omega)
  refine s_lcy (by rw [List.length_map]; omega) l ⟨bs ++ [a], by simp, ?_, by omega, rfl⟩
  rw [filtV_take f hi, if_pos hc, List.length_append, List.length_append, hb]
  rfl
theorem s_lcnF {f : List Int → Bool} {i : Nat} {bs : List Addr} {Dl : Addr} {L4 : Lg} (hc : f (rowAt rows (i : Int)) = false) (hb : bs.length = ((rows.take i).filter f).length) (hi : i < rows.length) (l : Lic L4 ([(Dl, .lst (bs.map V.ref))] :: L)) : LcN Dl (bs.map V.ref) (FiltV f rows (i + 1) L) L4 := by
  refine s_lcn l ⟨bs, rfl, ?_, by omega, rfl⟩
  rw [filtV_take f hi, hc, hb]
  simp
theorem a_filtV (f : List Int → Bool) (hm : volC p as rows ∈ L) (hl : as.length = rows.length) (hw : wipe σ vw = σw)
    (hs : ∀ (i : Nat) (bs : List Addr) (Dl : Addr), i < rows.length → bs.length = ((rows.take i).filter f).length → gg (.ref (adrAt as (i : Int))) σw ([(Dl, .lst (bs.map V.ref))] :: L) (LcT tt te Dl (bs.map V.ref) (FiltV f rows (i + 1) L) σw vw))
    (hd : ∀ Dl (bs : List Addr), bs.length = (rows.filter f).length → Wk (Q (.ref Dl)) ([(Dl, .lst (bs.map V.ref))] :: L)) : ∀ Dl, Dl ∉ keys L → LcR (wkL K p (as.map V.ref)) gg tt te vw σ Dl L Q := fun Dl _ => by
  refine c_refs (fun i acc L' => FiltV f rows i L acc L') hw (Wk.go ⟨[], rfl, rfl, Nat.zero_le _, rfl⟩) (fun i acc L' h => ?_) ?_ ?_
  · obtain ⟨bs, _, _, _, rfl⟩ := h
    exact IsL.tl (IsL.at_ (vol_top hm))
  · rintro i acc L' hi ⟨bs, rfl, hb, hi2, rfl⟩
    exact hs i bs Dl (by omega) hb
  · rintro acc L' ⟨bs, rfl, hb, _, rfl⟩
    rw [hl, List.take_length] at hb
    exact hd Dl bs hb
end
/-! ### gathering by a filter -/
theorem accL_filter (g : Int → List (List Int)) (f : Int → Bool) {lo : Int} : ∀ n : Nat, accL g ((rngL lo n).filter f) = accM (fun i : Nat => if f (lo + (i : Int)) = true then g (lo + (i : Int)) else []) n
  | 0 => rfl
  | n + 1 => by
    rw [rngL_succ, List.filter_append, accM_succ, ← accL_filter g f n]
    unfold accL
    rw [List.map_append, List.flatten_append]
    cases hf : f (lo + (n : Int)) <;> simp [hf]
/-! ### a dict that counts -/
def cntR (rs : List (List Int)) (f : Int) : Int := ((rs.filter fun r => decide (r.getD 3 0 = f)).length : Int)
theorem cntR_snoc (rs : List (List Int)) (r : List Int) (f : Int) : cntR (rs ++ [r]) f = cntR rs f + if r.getD 3 0 = f then 1 else 0 := by
  unfold cntR
  rw [List.filter_append, List.length_append]
  by_cases h : r.getD 3 0 = f
  · rw [if_pos h, List.filter_cons_of_pos (by rw [decide_eq_true h])]
    simp
  · rw [if_neg h, List.filter_cons_of_neg (by rw [decide_eq_false h]; simp)]
    simp
theorem cntR_nn (rs : List (List Int)) (f : Int) : 0 ≤ cntR rs f := by unfold cntR; omega
def CntD (kvs : List (Key × V)) (rs : List (List Int)) : Prop := (∀ f : Int, valV kvs (.inl f) = if cntR rs f = 0 then none else some (.int (cntR rs f))) ∧ kvs.length ≤ rs.length
theorem CntD.nil : CntD [] [] := ⟨fun _ => rfl, Nat.le_refl _⟩
theorem CntD.is {kvs : List (Key × V)} {rs : List (List Int)} (h : CntD kvs rs) (f : Int) : (valV kvs (.inl f)).isSome = !decide (cntR rs f = 0) := by
  rw [h.1 f]
  by_cases e : cntR rs f = 0 <;> simp [e]
theorem CntD.get {kvs : List (Key × V)} {rs : List (List Int)} (h : CntD kvs rs) (f : Int) : (valV kvs (.inl f)).getD (.int 0) = .int (cntR rs f) := by
  rw [h.1 f]
  by_cases e : cntR rs f = 0 <;> simp [e]
theorem CntD.snoc {kvs : List (Key × V)} {rs : List (List Int)} {r : List Int} (h : CntD kvs rs) : CntD (putK kvs (.inl (r.getD 3 0)) (.int (cntR rs (r.getD 3 0) + 1))) (rs ++ [r]) := by
  refine ⟨fun f => ?_, ?_⟩
  · rw [L2.valV_put, cntR_snoc]
    have := cntR_nn rs f
    by_cases e : f = r.getD 3 0
    · subst e
      rw [if_pos rfl, if_pos rfl, if_neg (by omega)]
    · rw [if_neg (fun z => e (Sum.inl.inj z)), if_neg (c := r.getD 3 0 = f) (fun z => e z.symm), h.1 f, Int.add_zero]
  · have := L2.length_putK kvs (.inl (r.getD 3 0)) (.int (cntR rs (r.getD 3 0) + 1))
    have := h.2
    rw [List.length_append, List.length_singleton]
    omega
section
variable {K : PySem.W.Frag} {L L1 : Lg} {p : Addr} {kvs : List (Key × V)} {rs : List (List Int)} {x : Int} {Q : LVK}
theorem s_nin_cd (h : At L p (.dK kvs)) (c : CntD kvs rs) (k : Q (.bl (decide (cntR rs x = 0))) L) : gIn K true (.int x) (.ref p) L Q := s_nin_d h (by rw [c.is, Bool.not_not]; exact k)
theorem s_in_cd (h : At L p (.dK kvs)) (c : CntD kvs rs) (k : Q (.bl (!decide (cntR rs x = 0))) L) : gIn K false (.int x) (.ref p) L Q := s_in_d h (by rw [c.is]; exact k)
theorem s_dgz_cd (h : At L p (.dK kvs)) (c : CntD kvs rs) (k : Q (.int (cntR rs x)) L) : DgZ p x Q (.int 0) L := s_dgz h (by rw [c.get]; exact k)
end
end VM

end

section
namespace VM
open PySem PySem.Spec L2
open PyProof.Rows hiding St

/-! ### d.get(k) -/
section
variable {X : Cx} {o e f : Expr} {apos cpos pos : Pos} {ta tb tc : LTE} {σ : St} {L : Lg} {Q : LVK}
def Dg1Y (a : Addr) (Q : LVK) : LVK := fun y L2 => ∃ k kvs, y = .int k ∧ At L2 a (.dK kvs) ∧ Q ((valV kvs (.inl k)).getD .non) L2
def Dg1K (tb : LTE) (σ : St) (Q : LVK) : LVK := fun x L1 => ∃ a kvs, x = .ref a ∧ At L1 a (.dK kvs) ∧ tb σ L1 (Dg1Y a Q)
def lDGet1 (ta tb : LTE) : LTE := fun σ L Q => ta σ L (Dg1K tb σ Q)
theorem ldget1 (hu : X.A.units + 64 < cLine) (ho : LE X o ta) (he : LE X e tb) (m : M1 X o "get" apos e cpos := by exact ⟨rfl, rfl, rfl, rfl⟩) : LE X (.Call (.Attribute o "get" apos) [e] [] cpos) (lDGet1 ta tb) := by
  refine PE.imp (pe_dget1 (Nat.lt_of_le_of_lt (Nat.add_le_add_left (by decide) _) hu) ho he m) fun σ H Q h => ?_
  obtain ⟨L, QL, hL, h, k⟩ := h
  refine ⟨L, _, hL, h, fun x L1 H1 ⟨a, kvs, e1, h1, h2⟩ hL1 => ⟨a, e1, .inl ⟨kvs, .inl (h1 H1 hL1)⟩, L1, _, hL1, h2, fun y L2 H2 ⟨i, kv2, e2, h3, q⟩ hL2 => ⟨_, by subst e2; exact DGet.k (k := .inl i) (h3 H2 hL2), k _ _ _ q hL2⟩⟩⟩
variable {a : Addr} {kvs : List (Key × V)} {i : Int} {z : V}
instance j_dget1 : S1 (lDGet1 ta tb σ L Q) (ta σ L (Dg1K tb σ Q)) := ⟨id⟩
theorem s_dg1k (h : At L a (.dK kvs)) (k : tb σ L (Dg1Y a Q)) : Dg1K tb σ Q (.ref a) L := ⟨a, kvs, rfl, h, k⟩
theorem s_dg1y (h : At L a (.dK kvs)) (k : Q ((valV kvs (.inl i)).getD .non) L) : Dg1Y a Q (.int i) L := ⟨i, kvs, rfl, h, k⟩
end
/-! ### dicts of ints -/
def optV : Option Int → V
  | none => .non
  | some x => .int x
def IntD (kvs : List (Key × V)) (m : Int → Option Int) : Prop := ∀ k : Int, valV kvs (.inl k) = (m k).map V.int
def noM : Int → Option Int := fun _ => none
def putM (m : Int → Option Int) (k v : Int) : Int → Option Int := fun x => if x = k then some v else m x
theorem IntD.nil : IntD [] noM := fun _ => rfl
theorem IntD.put {kvs : List (Key × V)} {m : Int → Option Int} {k v : Int} (h : IntD kvs m) : IntD (putK kvs (.inl k) (.int v)) (putM m k v) := fun x => by
  rw [L2.valV_put]
  unfold putM
  by_cases e : x = k
  · subst e
    rw [if_pos rfl, if_pos rfl]
    rfl
  · rw [if_neg (fun z => e (Sum.inl.inj z)), if_neg e]
    exact h x
section
variable {K : PySem.W.Frag} {L L1 : Lg} {p : Addr} {kvs : List (Key × V)} {m : Int → Option Int} {x : Int} {Q : LVK}
theorem IntD.is (c : IntD kvs m) (x : Int) : (valV kvs (.inl x)).isSome = (m x).isSome := by rw [c x, Option.isSome_map]
theorem IntD.get (c : IntD kvs m) (x : Int) : (valV kvs (.inl x)).getD .non = optV (m x) := by
  rw [c x]
  cases m x <;> rfl
theorem s_nin_id (c : IntD kvs m) (h : At L p (.dK kvs)) (k : Q (.bl (!(m x).isSome)) L) : gIn K true (.int x) (.ref p) L Q := s_nin_d h (by rw [c.is]; exact k)
theorem s_in_id (c : IntD kvs m) (h : At L p (.dK kvs)) (k : Q (.bl (m x).isSome) L) : gIn K false (.int x) (.ref p) L Q := s_in_d h (by rw [c.is]; exact k)
theorem s_ix_id (c : IntD kvs m) (h : At L p (.dK kvs)) (e : (m x).isSome = true) (k : ∀ y, m x = some y → Q (.int y) L) : gIx K (.ref p) (.int x) L Q := by
  obtain ⟨y, hy⟩ := Option.isSome_iff_exists.mp e
  exact s_ix_d h (by rw [c x, hy]; rfl) (k y hy)
theorem s_dg1_id (c : IntD kvs m) (h : At L p (.dK kvs)) (k : Q (optV (m x)) L) : Dg1Y p Q (.int x) L := s_dg1y h (by rw [c.get]; exact k)
theorem s_set_id {Q : Lg → Prop} {v : Int} (c : IntD kvs m) (hz : kvs.length < 1000000) (hw : Wr p (.dK kvs) (.dK (putK kvs (.inl x) (.int v))) L L1) (k : IntD (putK kvs (.inl x) (.int v)) (putM m x v) → (putK kvs (.inl x) (.int v)).length ≤ kvs.length + 1 → Q L1) : gSet (.ref p) (.int x) (.int v) L Q :=
  s_set_d hw hz (k c.put (L2.length_putK _ _ _))
/-! what may be None -/
theorem optV_inj {a b : Option Int} : optV a = optV b ↔ a = b := by
  constructor
  · intro h
    cases a <;> cases b
    · rfl
    · cases h
    · cases h
    · injection h with h; rw [h]
  · rintro rfl; rfl
theorem scal_opt (a b : Option Int) : scal (optV a) (optV b) = true := by cases a <;> cases b <;> rfl
theorem s_ne_opt {a b : Option Int} (k : Q (.bl (!decide (a = b))) L) : gNe K (optV a) (optV b) L Q := .inl ⟨scal_opt a b, by
  rw [show decide (optV a = optV b) = decide (a = b) from by rw [decide_eq_decide]; exact optV_inj]; exact k⟩
theorem s_eq_opt {a b : Option Int} (k : Q (.bl (decide (a = b))) L) : gEq K (optV a) (optV b) L Q := .inl ⟨scal_opt a b, by
  rw [show decide (optV a = optV b) = decide (a = b) from by rw [decide_eq_decide]; exact optV_inj]; exact k⟩
theorem s_isN_opt {a : Option Int} (k : Q (.bl (!decide (a = none))) L) : gIsN (optV a) .non L Q := ⟨rfl, by
  rw [show decide (optV a = .non) = decide (a = none) from by rw [decide_eq_decide]; exact optV_inj (b := none)]; exact k⟩
theorem s_is_opt {a : Option Int} (k : Q (.bl (decide (a = none))) L) : gIs (optV a) .non L Q := ⟨rfl, by
  rw [show decide (optV a = .non) = decide (a = none) from by rw [decide_eq_decide]; exact optV_inj (b := none)]; exact k⟩
/-! the last one -/
theorem atI_last {α : Type} {xs : List α} {v : α} (h : xs.getLast? = some v) : atI xs (-1) = some v := by
  have hl : xs.length - 1 < xs.length := by
    rw [List.getLast?_eq_getElem?] at h
    exact (List.getElem?_eq_some_iff.mp h).1
  rw [List.getLast?_eq_getElem?] at h
  have e : ixN xs.length (-1) = some (xs.length - 1) := by
    unfold ixN
    rw [if_neg (by decide), if_pos (by omega)]
    exact congrArg some (by omega)
  unfold atI
  rw [e]
  exact h
theorem s_ix_last {xs : List V} {ns : List Int} {y : Int} (h : IsL K L p xs) (v : IntsV xs ns) (hn : ns.getLast? = some y) (k : Q (.int y) L) : gIx K (.ref p) (.int (-1)) L Q := by
  refine s_ix_l h (atI_last ?_) k
  rw [v.eq, List.getLast?_map, hn]
  rfl
/-! cuts of lists of tuples -/
theorem TelAll.cut {c : Chunk} {lo hi : Option Int} {xs : List V} {ds : List PyData} (h : TelAll c xs ds) : TelAll c (cutG xs lo hi) (cutG ds lo hi) := by
  have hl := h.len
  have drop : ∀ (n : Nat) {xs : List V} {ds : List PyData}, TelAll c xs ds → TelAll c (xs.drop n) (ds.drop n) := by
    intro n
    induction n with
    | zero => intro xs ds h; simpa using h
    | succ n ih =>
      intro xs ds h
      cases h with
      | nil => simpa using TelAll.nil
      | cons a b => simpa using ih b
  have take : ∀ (n : Nat) {xs : List V} {ds : List PyData}, TelAll c xs ds → TelAll c (xs.take n) (ds.take n) := by
    intro n
    induction n with
    | zero => intro xs ds h; simpa using TelAll.nil
    | succ n ih =>
      intro xs ds h
      cases h with
      | nil => simpa using TelAll.nil
      | cons a b => simpa using TelAll.cons a (ih b)
  unfold cutG
  rw [hl]
  exact take _ (drop _ h)
theorem s_sl_ldT {c : Chunk} {ts : List (List Int)} {lo hi : Option Int} (h : LdT c p ts) (hp : Pull c L L1) (k : ∀ r d, LdT d r (cutG ts lo hi) → Wk (Q (.ref r)) (d :: L1)) : gSl K (.ref p) lo hi L (fun v => Wk (Q v)) := by
  obtain ⟨xs, h1, h2⟩ := h.open_
  refine s_sl_l (IsL.at_ (At.mem hp.mem h1)) fun r => ?_
  obtain ⟨L5, l, q⟩ := k r ((r, .lst (cutV xs lo hi)) :: c) ⟨c, cutV xs lo hi, rfl, by rw [show cutV xs lo hi = cutG xs lo hi from rfl, ← cutG_map]; exact h2.cut⟩
  refine ⟨L5, Lic.trans (LicS.lic ?_) l, q⟩
  exact LicS.trans (LicS.cons (LicS.pull hp LicS.refl)) (LicS.split LicS.refl)
end
/-! ### filters of lists of tuples -/
section
variable {K : PySem.W.Frag} {σ σw : St} {L : Lg} {Q : LVK} {p : Addr} {ts : List (List Int)} {c : Chunk} {xs : List V} {gg : LTG} {tt : LTT} {te : LTE} {vw : List Nat}
def FiltT (f : List Int → Bool) (ts : List (List Int)) (i : Nat) (L : Lg) : List V → Lg → Prop := fun acc L' => acc.length = ((ts.take i).filter f).length ∧ i ≤ ts.length ∧ L' = L
theorem filtT_take (f : List Int → Bool) {i : Nat} {r : List Int} (hi : ts[i]? = some r) : (ts.take (i + 1)).filter f = (ts.take i).filter f ++ if f r = true then [r] else [] := by
  rw [List.take_succ, hi, List.filter_append]
  cases hf : f r <;> simp [hf]
theorem s_lcyFT {f : List Int → Bool} {i : Nat} {r : List Int} {acc : List V} {v : V} {Dl : Addr} {L4 : Lg} (hc : f r = true) (hb : acc.length = ((ts.take i).filter f).length) (hi : ts[i]? = some r) (hz : ts.length ≤ 1000000) (l : Lic L4 ([(Dl, .lst acc)] :: L)) : LcY Dl acc (FiltT f ts (i + 1) L) v L4 := by
  have hlt : i < ts.length := (List.getElem?_eq_some_iff.mp hi).1
  have hle : ((ts.take i).filter f).length ≤ i := Nat.le_trans (List.length_filter_le _ _) (by simp; omega)
  refine s_lcy (by omega) l ⟨?_, by omega, rfl⟩
  rw [filtT_take f hi, if_pos hc, List.length_append, List.length_append, hb]
  rfl
theorem s_lcnFT {f : List Int → Bool} {i : Nat} {r : List Int} {acc : List V} {Dl : Addr} {L4 : Lg} (hc : f r = false) (hb : acc.length = ((ts.take i).filter f).length) (hi : ts[i]? = some r) (l : Lic L4 ([(Dl, .lst acc)] :: L)) : LcN Dl acc (FiltT f ts (i + 1) L) L4 := by
  have hlt : i < ts.length := (List.getElem?_eq_some_iff.mp hi).1
  refine s_lcn l ⟨?_, by omega, rfl⟩
  rw [filtT_take f hi, hc, hb]
  simp
theorem a_filtLT (f : List Int → Bool) (hm : c ∈ L) (hp : (p, HO.lst xs) ∈ c) (ht : TelAll c xs (ts.map dT)) (hw : wipe σ vw = σw)
    (hs : ∀ (i : Nat) (r : List Int) (t : Addr) (acc : List V) (Dl : Addr), ts[i]? = some r → (t, HO.tup (r.map V.int)) ∈ c → acc.length = ((ts.take i).filter f).length → gg (.ref t) σw ([(Dl, .lst acc)] :: L) (LcT tt te Dl acc (FiltT f ts (i + 1) L) σw vw))
    (hd : ∀ Dl acc, acc.length = (ts.filter f).length → Wk (Q (.ref Dl)) ([(Dl, .lst acc)] :: L)) : ∀ Dl, Dl ∉ keys L → LcR (wkL K p xs) gg tt te vw σ Dl L Q := fun Dl _ => by
  have hxl : xs.length = ts.length := by rw [ht.len, List.length_map]
  refine c_list (fun i acc L' => FiltT f ts i L acc L') hw (Wk.go ⟨rfl, Nat.zero_le _, rfl⟩) (fun i acc L' h => ?_) ?_ ?_
  · rw [h.2.2]; exact IsL.tl (IsL.at_ (At.mem hm hp))
  · rintro i acc x L' hi ⟨hb, hil, rfl⟩
    obtain ⟨r, t, e1, rfl, m⟩ := ht.tup hi
    exact hs i r t acc Dl e1 m hb
  · rintro acc L' ⟨hb, _, rfl⟩
    rw [hxl, List.take_length] at hb
    exact hd Dl acc hb
end
end VM

end

section
namespace VM
open PySem PySem.Spec L2
open PyProof.Rows hiding St

/-! ### exceptions: what is wished of them, by the ledger -/
def WL (W : WX) (σ : St) : LXK := fun c d L => ∀ H, Led H L → W c d σ H
/-- what a def wishes of what leaves it -/
def WD (E : XK) : WX := fun c d _ H => E c d H
def OkMX (P : Program) (w : World) (K : PySem.W.Frag) (mg : Str → Option Value) (base : Heap) (k : Nat) (f : Addr) (ps : List Str) (dvs : List V) (sp : LSp) : Prop := ∃ fd, FnOk P w K mg base (L2.CX P w) k f fd ps (UpP sp) ∧ (∀ j, j ≤ dvs.length → ∃ ds, Vals (dvs.drop j) ds ∧ Binds K fd ps ds) ∧ PySem.W.keepIn K (.ref f) = true
def OkFX (P : Program) (w : World) (K : PySem.W.Frag) (mg : Str → Option Value) (base : Heap) (k : Nat) (x : Str) (ps : List Str) (dvs : List V) (sp : LSp) : Prop := mg x = some (.ref (He.ga K x)) ∧ OkMX P w K mg base k (He.ga K x) ps dvs sp
def XCallK (W : WX) (sp : LSp) (σ : St) (Q : LVK) : List V → Lg → Prop := fun vs => Wk fun L1 => sp vs L1 Q (WL W σ)
def lCallX (W : WX) (dl : List V) (sp : LSp) (t : LTA) : LTE := fun σ L Q => t σ L (CatK dl (XCallK W sp σ Q))
def lMethX (W : WX) (C : Addr) (m : Str) (dl : List V) (sp : LSp) (ta : LTE) (t : LTA) : LTE := fun σ L Q => ta σ L fun x L1 => ObjL C m x L1 ∧ t σ L1 (CatK dl fun vs => XCallK W sp σ Q (x :: vs))
section
variable {X : Cx} {W : WX} {k : Nat} {f C : Addr} {fd : FuncData} {ps : List Str} {sp : LSp} {dvs dl : List V} {ds : List Value} {x m : Str} {p pos apos : Pos} {e o : Expr} {es : List Expr} {ta te : LTE} {t : LTA}
theorem run_fnX {sp : Sp} {pins : List (Addr × Obj)} {σ : St} {H : Hp} {s : Shared} {Q : VK} {us : List Value} {vs : List V} (F : FnOk X.prog X.w X.K X.mg X.base (L2.CX X.prog X.w) k f fd ps sp) (hr : Room k X.A) (hb : Binds X.K fd ps ds) (hd : Vals dl ds) (tk : Takes X W) (I : Inv X pins σ H s) (r : Vals vs us)
    (h : sp (vs ++ dl) H Q (WE W σ)) : wpAny (model X.prog X.w) X.A (call (.ref f) us) (EP X pins σ Q) X.xe s := by
  have rr := Vals.append r hd
  have hlen := (Vals.length rr).symm.trans (F.len _ _ _ _ h)
  have run := F.run X.A X.stack s H ⟨us, []⟩ _ _ Q _ hr I.env0 (hb s us I.kIn hlen) rr h
  refine wpAny_call (codeAny_mono run ?_)
  rintro (e | fl) s' hq
  · exact passAt tk σ pins H s e s' I hq
  · cases fl <;> first | exact I.after hq | exact hq.elim
theorem lcallOX (tk : Takes X W) (G : OkFX X.prog X.w X.K X.mg X.base k x ps dvs sp) (j : Nat) (hj : j ≤ dvs.length) (hd : dvs.drop j = dl) (hr : Room k X.A) (hg : Gl X x) (ha : LA X (e :: es) t) (hdb : (x == ("__debug__" : Str)) = false := by decide)
    (he : starEach (e :: es) X.env = (false, eval e X.env) :: starEach es X.env := by rfl) (hpl : (backTo pos (starEach es X.env)).any (·.1) = false := by rfl) : LE X (.Call (.Name x p) (e :: es) [] pos) (lCallX W dl sp t) := by
  obtain ⟨hm, fd, F, hb, kp⟩ := G
  obtain ⟨ds, hds, hbd⟩ := hb j hj
  subst hd
  refine ⟨fun pins s σ H Q I h => ?_⟩
  obtain ⟨L, QL, hL, h, kq⟩ := h
  have args := ha.run pos pins s σ H (fun vs H1 => UpP (wkP sp) (vs ++ dvs.drop j) H1 Q (WE W σ)) I
    ⟨L, _, hL, h, fun vs L1 H1 h1 hL1 => ⟨L1, QL, WL W σ, hL1, h1, kq, fun c d L' H' z l => z H' l⟩⟩
  exact wpAny_Call_Name_kw (ld_glob I hg hm (PySem.W.callWith_K (h₀ := X.base) I.ok.mod.kin kp
    (thn args fun us s1 q => by obtain ⟨vs, H1, I1, r, q⟩ := q; exact ⟨I1.kIn, run_fnX (FnOk.wk F) hr hbd hds tk I1 r q⟩) he hpl) hdb)
theorem lmethOX {pl : Sem Bool} (tk : Takes X W) (c : Cls X.K C) (hm : Meth X.K C m f) (G : OkMX X.prog X.w X.K X.mg X.base k f ps dvs sp) (j : Nat) (hj : j ≤ dvs.length) (hd : dvs.drop j = dl) (hr : Room k X.A) (he : LE X o ta) (ha : LA X (e :: es) t)
    (hst : starEach (e :: es) X.env = (false, eval e X.env) :: starEach es X.env := by rfl) (hpl : (backTo pos (starEach es X.env)).any (·.1) = false := by rfl)
    (ht : eval (.Call (.Attribute o m apos) (e :: es) [] pos) X.env = (do
      let ov ← eval o X.env
      standAt apos.atName
      let (f, first) ← holding [ov] (getMethod ov m pl)
      callWith pos f first (backTo pos (starEach (e :: es) X.env)) (backToKw pos (keywordEach [] X.env))) := by rfl) :
    LE X (.Call (.Attribute o m apos) (e :: es) [] pos) (lMethX W C m dl sp ta t) := by
  obtain ⟨fd, F, hb, kp⟩ := G
  obtain ⟨ds, hds, hbd⟩ := hb j hj
  subst hd
  refine ⟨fun pins s σ H Q I h => ?_⟩
  obtain ⟨L, QL, hL, h, kq⟩ := h
  have obj := he.run pins s σ H (fun x H1 => ∃ L1, Led H1 L1 ∧ ObjL C m x L1 ∧ t σ L1 (CatK (dvs.drop j) fun vs => XCallK W sp σ QL (x :: vs))) I ⟨L, _, hL, h, fun x L1 H1 h1 hL1 => ⟨L1, hL1, h1⟩⟩
  refine PySem.W.methodCall_KW (pl := pl) (thn obj fun u s1 q => ?_) ht
  obtain ⟨x, H1, I1, rx, L1, hL1, ho, q⟩ := q
  obtain ⟨a, dx, fs, ex, ea, l⟩ := ho H1 hL1
  subst ex
  have eu : u = Value.ref a := rx
  subst eu
  refine getmeth_ok I1 ea c hm l ?_
  have args := ha.run pos pins s1 σ H1 (fun vs H2 => UpP (wkP sp) ((V.ref a :: vs) ++ dvs.drop j) H2 Q (WE W σ)) I1
    ⟨L1, _, hL1, q, fun vs L2 H2 h2 hL2 => ⟨L2, QL, WL W σ, hL2, h2, kq, fun c d L' H' z l => z H' l⟩⟩
  refine PySem.W.callWith_K (first := [.ref a]) (h₀ := X.base) I.ok.mod.kin hm.kp (thn args fun us s2 q => ?_) hst hpl
  obtain ⟨vs, H2, I2, r, q⟩ := q
  exact ⟨I2.kIn, run_fnX (us := .ref a :: us) (vs := V.ref a :: vs) (FnOk.wk F) hr hbd hds tk I2 (.cons rfl r) q⟩
theorem lmethOX0 {pl : Sem Bool} (tk : Takes X W) (c : Cls X.K C) (hm : Meth X.K C m f) (G : OkMX X.prog X.w X.K X.mg X.base k f ps dvs sp) (j : Nat) (hj : j ≤ dvs.length) (hd : dvs.drop j = dl) (hr : Room k X.A) (he : LE X o ta)
    (ht : eval (.Call (.Attribute o m apos) [] [] pos) X.env = (do
      let ov ← eval o X.env
      standAt apos.atName
      let (f, first) ← holding [ov] (getMethod ov m pl)
      callWith pos f first (backTo pos (starEach [] X.env)) (backToKw pos (keywordEach [] X.env))) := by rfl) :
    LE X (.Call (.Attribute o m apos) [] [] pos) (lMethX W C m dl sp ta lNil) := by
  obtain ⟨fd, F, hb, kp⟩ := G
  obtain ⟨ds, hds, hbd⟩ := hb j hj
  subst hd
  refine ⟨fun pins s σ H Q I h => ?_⟩
  obtain ⟨L, QL, hL, h, kq⟩ := h
  have obj := he.run pins s σ H (fun x H1 => ∃ L1, Led H1 L1 ∧ ObjL C m x L1 ∧ lNil σ L1 (CatK (dvs.drop j) fun vs => XCallK W sp σ QL (x :: vs))) I ⟨L, _, hL, h, fun x L1 H1 h1 hL1 => ⟨L1, hL1, h1⟩⟩
  refine PySem.W.methodCall_KW (pl := pl) (thn obj fun u s1 q => ?_) ht
  obtain ⟨x, H1, I1, rx, L1, hL1, ho, q⟩ := q
  obtain ⟨a, dx, fs, ex, ea, l⟩ := ho H1 hL1
  subst ex
  have eu : u = Value.ref a := rx
  subst eu
  refine getmeth_ok I1 ea c hm l ?_
  refine PySem.W.callWith_K0 (first := [.ref a]) I1.kIn hm.kp (run_fnX (us := [.ref a]) (vs := [V.ref a]) (FnOk.wk F) hr hbd hds tk I1 (.cons rfl .nil) ?_)
  exact ⟨L1, QL, WL W σ, hL1, q, kq, fun c d L' H' z l => z H' l⟩
/-- C(..) that may be refused: what is wished of the refusal, whatever the slots -/
def WLa (W : WX) (n : Nat) : LXK := fun c d L' => ∀ σ' : St, σ'.length = n → WL W σ' c d L'
def MakeXK (W : WX) (n : Nat) (C : Addr) (sp : LSp) (Q : LVK) : List V → Lg → Prop := fun vs L1 => ∀ x dx, x ∉ keys L1 → sp (.ref x :: vs) ([(x, .ins C dx [])] :: L1) (fun v L2 => v = .non ∧ Q (.ref x) L2) (WLa W n)
def lMakeX (W : WX) (n : Nat) (C : Addr) (dl : List V) (sp : LSp) (t : LTA) : LTE := fun σ L Q => t σ L (CatK dl (MakeXK W n C sp Q))
theorem lmakeOX {n : Nat} (tk : Takes X W) (M : Mk X.K C f) (hm : X.mg x = some (.ref C)) (G : OkMX X.prog X.w X.K X.mg X.base k f ps dvs sp) (j : Nat) (hj : j ≤ dvs.length) (hd : dvs.drop j = dl) (hr : Room (k + 1) X.A) (hg : Gl X x)
    (ha : LA X (e :: es) t) (hn : X.N.length = n := by rfl) (hdb : (x == ("__debug__" : Str)) = false := by decide) (he : starEach (e :: es) X.env = (false, eval e X.env) :: starEach es X.env := by rfl) (hpl : (backTo pos (starEach es X.env)).any (·.1) = false := by rfl) :
    LE X (.Call (.Name x p) (e :: es) [] pos) (lMakeX W n C dl sp t) := by
  obtain ⟨fd, F, hb, kp⟩ := G
  obtain ⟨ds, hds, hbd⟩ := hb j hj
  subst hd
  have pass : Passes (L2.CX X.prog X.w) X (DnX (WLa W n)) := fun pins σ H s e s' I c =>
    tk e s' (XE.of_call I (fun cls d H' ⟨L', l, q⟩ => q σ (I.len.trans hn) H' l) c)
  refine PE.imp (pe_make M F hr hg hm hbd hds pass ha hdb he hpl) fun σ H Q h => ?_
  obtain ⟨L, QL, hL, h, kq⟩ := h
  refine ⟨L, _, hL, h, fun vs L1 H1 h1 hL1 y dx ny nd ne => ?_⟩
  exact ⟨_, _, _, led_ins hL1 ny nd ne, h1 y dx (hL1.fresh ny), fun v L' H' ⟨q1, q2⟩ l => ⟨q1, kq _ _ _ q2 l⟩, fun c d L' H' q l => ⟨L', l, q⟩⟩
variable {σ : St} {L : Lg} {Q : LVK}
instance j_callX : S1 (lCallX W dl sp t σ L Q) (t σ L (CatK dl (XCallK W sp σ Q))) := ⟨id⟩
instance j_methX {m : Str} : S1 (lMethX W C m dl sp ta t σ L Q) (ta σ L fun x L1 => ObjL C m x L1 ∧ t σ L1 (CatK dl fun vs => XCallK W sp σ Q (x :: vs))) := ⟨id⟩
instance j_makeX {n : Nat} : S1 (lMakeX W n C dl sp t σ L Q) (t σ L (CatK dl (MakeXK W n C sp Q))) := ⟨id⟩
theorem s_makeXK {n : Nat} {vs : List V} (k : ∀ x dx, sp (.ref x :: vs) ([(x, .ins C dx [])] :: L) (fun v L2 => v = .non ∧ Q (.ref x) L2) (WLa W n)) : MakeXK W n C sp Q vs L := fun x dx _ => k x dx
theorem s_xcall {vs : List V} (k : Wk (fun L1 => sp vs L1 Q (WL W σ)) L) : XCallK W sp σ Q vs L := k
instance j_xcall {vs : List V} : S1 (XCallK W sp σ Q vs L) (Wk (fun L1 => sp vs L1 Q (WL W σ)) L) := ⟨id⟩
end
/-! ### raise -/
def lRaise (W : WX) (C : Addr) : LTS := fun _ σ L => WL W σ (.ref C) none L
def ExcB (K : PySem.W.Frag) (C : Addr) : Bool := PySem.W.excIn K C [.type "ValueError", .type "Exception", .type "BaseException", .type "object"] "ValueError.__new__" && (PySem.W.keepIn K (.ref C) && (decide (PySem.W.subIn K (.ref C) (.type "BaseException") = some true) && decide (PySem.W.typeIn K (.ref C) = some (.type "type"))))
section
variable {X : Cx} {W : WX} {C : Addr} {x m : Str} {j : Nat} {p p2 pos pos' : Pos} {st : Stmt} {t : LTS} {tt : LTT} {te : LTE} {e : Expr}
theorem ls_raise (tk : Takes X W) (hB : ExcB X.K C = true) (hm : X.mg x = some (.ref C)) (hg : Gl X x) (hc : X.calm = true := by rfl) (hdb : (x == ("__debug__" : Str)) = false := by decide) : LS X (.Raise (some (.Call (.Name x p) [.Constant (.str m) j p2] [] pos)) none pos') (lRaise W C) := by
  unfold ExcB at hB
  simp only [Bool.and_eq_true, decide_eq_true_eq] at hB
  exact PS.imp (ps_raise hc tk (pmk_own PySem.F.excBase_ValueError hB.1 hm hB.2.1 (raises_own hB.2.2.1 hB.2.2.2) hg hdb)) fun D σ H ⟨L, _, hL, h, _⟩ => h H hL
theorem LS.nox (h : LS X.nox st t) : LS X st t := ⟨fun pins s σ H D I hw =>
  wpAny_mono (PS.run h pins s σ H D (I.wish _) hw) (fun _ _ q => q.unwish) fun _ _ z => z.elim⟩
theorem LT.nox (h : LT X.nox e tt) : LT X e tt := PT.nox h
theorem LE.nox (h : LE X.nox e te) : LE X e te := PE.nox h
theorem s_raise {D : LEnds} {σ : St} {L : Lg} (h : WL W σ (.ref C) none L) : lRaise W C D σ L := h
instance j_raise {D : LEnds} {σ : St} {L : Lg} : S1 (lRaise W C D σ L) (WL W σ (.ref C) none L) := ⟨id⟩
end
/-! ### a def that may refuse -/
theorem fn_okX {P : Program} {w : World} {K : PySem.W.Frag} {mg : Str → Option Value} {base : Heap} {y qual : Str} {params : Arguments} {body : List Stmt} {scope : Scope} {dvs : List V} {kws : List (Str × V)} {g : Addr} {fd : FuncData} {N qs : List Str} {j : Nat} {sp' : LSp}
    (F : FunD K y qual params body scope dvs kws g fd) (S : FnScope N qs scope) (len : ∀ vs L Q E, sp' vs L Q E → vs.length = qs.length)
    (hbody : ∀ (cdv : Value) (A : Around) (outer : List Env) (s : Shared) (H : Hp) (E : XK), Room j (A.deeper (envOfC qual scope s.heap.objs.size g cdv)) →
      ∃ t, LSs (cxOf (L2.CX P w) P w K mg base N qual scope g cdv A outer s H E) body t ∧ ∀ vs L Q EL σ, (∀ c d L σ, EL c d L → WL (WD E) σ c d L) → sp' vs L Q EL → start N vs = σ → t ⟨fun _ => Wk (Q .non), Q, fun _ _ => False, fun _ _ => False⟩ σ L) : FnOk P w K mg base (L2.CX P w) (j + 1) g fd qs (UpP sp') := by
  refine F.ok S (UpP.len len) fun cdv A outer s H vs Q E hr h => ?_
  obtain ⟨t, ht, hq⟩ := hbody cdv A outer s H E hr
  obtain ⟨L, QL, EL, hL, hs, k1, k2⟩ := h
  exact ⟨_, ht, L, _, hL, hq vs L QL EL _ (fun c d L σ z H' l => k2 c d L H' z l) hs rfl, ⟨fun σ' L' H' ⟨L2, l2, q⟩ l => k1 _ _ _ q (l2 _ l), fun v L' H' q l => k1 _ _ _ q l, fun _ _ _ z => z.elim, fun _ _ _ z => z.elim⟩⟩
theorem FnOk.toX {P : Program} {w : World} {K : PySem.W.Frag} {mg : Str → Option Value} {base : Heap} {k : Nat} {x : Str} {ps : List Str} {sp : LSp} (G : OkF P w K mg base k x ps sp) : OkFX P w K mg base k x ps [] sp := by
  obtain ⟨hm, fd, F, hb, kp⟩ := G
  exact ⟨hm, fd, FnOk.cx F, fun j hj => ⟨[], by simp; exact .nil, hb⟩, kp⟩
/-! ### try -/
abbrev LSu := Addr → Value → Option Addr → LTS
/-- the wish of the clause 'except c as n' -/
def AsW (K : PySem.W.Frag) (c : Value) (i : Nat) (ts : LSu) (Wout : WX) (D : LEnds) : Value → Option Addr → St → Lg → Prop := fun cls d σ L => ∃ b, PySem.W.exmOne K cls c = some b ∧
  (b = true → ∀ a, a ∉ keys L → ts a cls d ⟨fun σ' => D.nx (σ'.set i none), D.rt, fun σ' => D.bk (σ'.set i none), fun σ' => D.ct (σ'.set i none)⟩ (σ.set i (some (.ref a))) L) ∧ (b = false → WL Wout σ cls d L)
def lTryAs (K : PySem.W.Frag) (c : Value) (i : Nat) (tb : WX → LTS) (ts : LSu) (Wout : WX) : LTS := fun D σ L => ∀ W', (∀ cls d σ' L', AsW K c i ts Wout D cls d σ' L' → WL W' σ' cls d L') → tb W' D σ L
/-- .. of clauses without names, one after the other -/
def ManyW (K : PySem.W.Frag) (Wout : WX) (D : LEnds) : List (Value × LSu) → Value → Option Addr → St → Lg → Prop
  | [] => fun cls d σ L => WL Wout σ cls d L
  | (c, ts) :: r => fun cls d σ L => ∃ b, PySem.W.exmOne K cls c = some b ∧ (b = true → ∀ a, a ∉ keys L → ts a cls d D σ L) ∧ (b = false → ManyW K Wout D r cls d σ L)
def lTryMany (K : PySem.W.Frag) (l : List (Value × LSu)) (tb : WX → LTS) (Wout : WX) : LTS := fun D σ L => ∀ W', (∀ cls d σ' L', ManyW K Wout D l cls d σ' L' → WL W' σ' cls d L') → tb W' D σ L
/-- .. with else -/
def lTryManyE (K : PySem.W.Frag) (l : List (Value × LSu)) (tb : WX → LTS) (u : LTS) (Wout : WX) : LTS := fun D σ L => ∀ W', (∀ cls d σ' L', ManyW K Wout D l cls d σ' L' → WL W' σ' cls d L') → tb W' { D with nx := u D } σ L
section
variable {X : Cx} {x n : Str} {c : Value} {i : Nat} {body suite orelse : List Stmt} {b₀ : Stmt} {np pos pos' : Pos} {tb : WX → LTS} {ts : LSu} {Wout : WX} {h₀ : ExceptHandler} {hds : List ExceptHandler} {l : List (Value × LSu)} {u : LTS}
/-- a suite, whatever was caught -/
def SuOk (X : Cx) (suite : List Stmt) (ts : LSu) : Prop := ∀ (a : Addr) (oe : Obj) (cls : Value) (d : Option Addr) (pn : List (Addr × Obj)), Zc cls d oe → (∃ vs, oe.data = .fields vs) → LSs (X.suite a ((a, oe) :: pn)) suite (ts a cls d)
def BoOk (X : Cx) (body : List Stmt) (tb : WX → LTS) : Prop := ∀ (W : WX) (pn : List (Addr × Obj)) (xe : Value → Shared → Prop), Takes (X.tr pn xe) W → PassesOwn (model X.prog X.w) X.A X.env xe → LSs (X.tr pn xe) body (tb W)
theorem ls_tryAs (hN : X.N.Nodup) (hi : X.N[i]? = some n) (hln : X.env.kindOf n = some .local) (hc : Names X x c) (tk : Takes X Wout) (hb : BoOk X body tb) (hsu : SuOk X (b₀ :: suite) ts) (hs : X.stack = X.env :: X.outer := by rfl) (hf : X.env.frame = some X.env.locals := by rfl) :
    LS X (.Try body [.ExceptHandler (some (.Name x np)) (some n) (b₀ :: suite) pos'] [] [] pos) (lTryAs X.K c i tb ts Wout) := by
  refine PS.imp (ps_try_as hs hf hN hi hln hc tk (tb := fun W => UpS (tb W)) (ts := fun a cls d => UpS (ts a cls d)) hb hsu) fun D σ H h => ?_
  obtain ⟨L, DL, hL, h, k⟩ := h
  refine ⟨L, DL, hL, h _ fun cls d σ' L' z H' l => ?_, k⟩
  obtain ⟨b, e, h1, h2⟩ := z
  exact ⟨b, e, fun hb a na => ⟨L', _, l, h1 hb a (l.fresh na), ⟨fun σ2 L2 H2 q => k.nx _ _ _ q, k.rt, fun σ2 L2 H2 q => k.bk _ _ _ q, fun σ2 L2 H2 q => k.ct _ _ _ q⟩⟩, fun hb => h2 hb H' l⟩
inductive HdsL (X : Cx) : List ExceptHandler → List (Value × LSu) → Prop
  | nil : HdsL X [] []
  | cons {x : Str} {c : Value} {ts : LSu} {b₀ : Stmt} {suite : List Stmt} {np pos' : Pos} {hds : List ExceptHandler} {l : List (Value × LSu)} (hc : Names X x c) (hsu : SuOk X (b₀ :: suite) ts) (r : HdsL X hds l) : HdsL X (.ExceptHandler (some (.Name x np)) none (b₀ :: suite) pos' :: hds) ((c, ts) :: l)
def upL (l : List (Value × LSu)) : List (Value × (Addr → Value → Option Addr → TS)) := l.map fun p => (p.1, fun a cls d => UpS (p.2 a cls d))
theorem HdsL.up : ∀ {hds : List ExceptHandler} {l : List (Value × LSu)}, HdsL X hds l → HdsOk X hds (upL l) := by
  intro hds l h
  induction h with
  | nil => exact .nil
  | cons hc hsu _ ih => exact .cons hc hsu ih
theorem manyW_up {D : Ends} {DL : LEnds} (k : EndsUp DL D) : ∀ {l : List (Value × LSu)} {cls : Value} {d : Option Addr} {σ : St} {L : Lg} {H : Hp}, Led H L → ManyW X.K Wout DL l cls d σ L → wMany X.K Wout D (upL l) cls d σ H
  | [], cls, d, σ, L, H, hL, h => h H hL
  | (c, ts) :: r, cls, d, σ, L, H, hL, h => by
    obtain ⟨b, e, h1, h2⟩ := h
    exact ⟨b, e, fun hb a na => ⟨L, DL, hL, h1 hb a (hL.fresh na), k⟩, fun hb => manyW_up k hL (h2 hb)⟩
theorem ls_tryMany (tk : Takes X Wout) (hb : BoOk X body tb) (hh : HdsL X (h₀ :: hds) l) (hs : X.stack = X.env :: X.outer := by rfl) (hf : X.env.frame = some X.env.locals := by rfl) : LS X (.Try body (h₀ :: hds) [] [] pos) (lTryMany X.K l tb Wout) := by
  refine PS.imp (ps_try_many hs hf tk (tb := fun W => UpS (tb W)) (l := upL l) hb hh.up) fun D σ H h => ?_
  obtain ⟨L, DL, hL, h, k⟩ := h
  exact ⟨L, DL, hL, h _ fun cls d σ' L' z H' l => manyW_up k l z, k⟩
theorem ls_tryManyE (ho : LSs X orelse u) (tk : Takes X Wout) (hb : BoOk X body tb) (hh : HdsL X (h₀ :: hds) l) (hs : X.stack = X.env :: X.outer := by rfl) (hf : X.env.frame = some X.env.locals := by rfl) : LS X (.Try body (h₀ :: hds) orelse [] pos) (lTryManyE X.K l tb u Wout) := by
  refine PS.imp (ps_try_manyE ho hs hf tk (tb := fun W => UpS (tb W)) (l := upL l) hb hh.up) fun D σ H h => ?_
  obtain ⟨L, DL, hL, h, k⟩ := h
  exact ⟨L, { DL with nx := u DL }, hL, h _ fun cls d σ' L' z H' l => manyW_up k l z, ⟨fun σ2 L2 H2 q l2 => ⟨L2, DL, l2, q, k⟩, k.rt, k.bk, k.ct⟩⟩
end
/-! ### isinstance of what was caught -/
def ExcCB (K : PySem.W.Frag) (D : Addr) : Bool := decide (PySem.W.findIn K (.ref D) "__getattribute__" = some (some (.builtin "BaseException.__getattribute__"))) && (decide (PySem.W.findIn K (.ref D) "__getattr__" = some none) && (decide (PySem.W.subIn K (.ref D) (.type "BaseException") = some true) && (PySem.W.hasDictIn K D && (decide (PySem.W.findIn K (.ref D) "__class__" = some (some (.builtin "object.__class__"))) && (decide (PySem.W.specialIn K (.builtin "object.__class__") "__get__" = some (some (.builtin "getset_descriptor.__get__"))) && (decide (PySem.W.takesIn K (.builtin "object.__class__") = some true) && decide (PySem.W.mroIn K D (.type "object") = some true)))))))
theorem ExcCB.ok {K : PySem.W.Frag} {D : Addr} (h : ExcCB K D = true) : ExcC K D := by
  unfold ExcCB at h
  simp only [Bool.and_eq_true, decide_eq_true_eq] at h
  obtain ⟨h1, h2, h3, h4, h5, h6, h7, h8⟩ := h
  exact ⟨h1, h2, h3, h4, h5, h6, h7, h8⟩
def gIsE1 (K : PySem.W.Frag) (a : Addr) (cls : Value) (d : Option Addr) : LRC := fun xs L Q => ∃ (D : Addr) (c : V) (cv : Value) (b : Bool), cls = .ref D ∧ d = none ∧ ExcCB K D = true ∧ xs = [.ref a, c] ∧ ClsV c cv ∧ PySem.W.kitOne K (.ref D) cv = some b ∧ Q (.bl b) L
def gIsET (K : PySem.W.Frag) (a : Addr) (cls : Value) (d : Option Addr) : LRC := fun xs L Q => ∃ (D t : Addr) (cs : List V) (us : List Value) (b : Bool), cls = .ref D ∧ d = none ∧ ExcCB K D = true ∧ xs = [.ref a, .ref t] ∧ At L t (.tup cs) ∧ Paired ClsV cs us ∧ PySem.W.kitAny K (.ref D) us = some b ∧ Q (.bl b) L
def gIsE (K : PySem.W.Frag) (a : Addr) (cls : Value) (d : Option Addr) : LRC := fun xs L Q => gIsE1 K a cls d xs L Q ∨ gIsET K a cls d xs L Q ∨ lIsi K xs L Q
section
variable {X : Cx} {a : Addr} {oe : Obj} {cls : Value} {d : Option Addr} {pn : List (Addr × Obj)}
theorem lk_isE1 (hz : Zc cls d oe) (hf : ∃ vs, oe.data = .fields vs) : CallL (X.suite a ((a, oe) :: pn)) (.builtin "isinstance") (gIsE1 X.K a cls d) := by
  intro pins s σ H xs us Q I r h
  obtain ⟨L, QL, hL, ⟨D, c, cv, b, rfl, rfl, hB, rfl, hv, hk, q⟩, k⟩ := h
  exact call_isE (ExcCB.ok hB) hz hf pins s σ H _ us Q I r ⟨c, cv, b, rfl, fun u ru => hv.eq ru, hk, k _ _ _ q hL⟩
theorem lk_isET (hz : Zc cls d oe) (hf : ∃ vs, oe.data = .fields vs) : CallL (X.suite a ((a, oe) :: pn)) (.builtin "isinstance") (gIsET X.K a cls d) := by
  intro pins s σ H xs us Q I r h
  obtain ⟨L, QL, hL, ⟨D, t, cs, ws, b, rfl, rfl, hB, rfl, hT, hp, hk, q⟩, k⟩ := h
  obtain ⟨u1, u2, rfl, r1, r2⟩ := vals2 r
  have e1 : u1 = Value.ref a := r1
  have e2 : u2 = Value.ref t := r2
  subst e1 e2
  have C := (ExcCB.ok hB)
  have hget := (I.pin (a, oe) (List.mem_append_left _ List.mem_cons_self)).1
  obtain ⟨oc, od, oda, osl⟩ := oe
  obtain ⟨z1, z2⟩ := hz
  obtain ⟨vs, hvs⟩ := hf
  dsimp only at z1 z2 hvs
  subst z1 z2 hvs
  have J : PySem.W.InstAt s.heap a ⟨.ref D, none, .fields vs, osl⟩ D none := ⟨hget, rfl, rfl, trivial⟩
  have tok : ObjOk X.prog X.w H s.heap t (.tup cs) := I.hok t _ (hT H hL)
  obtain ⟨_, its, rv, ob, g1, g2, n, g3⟩ := tok
  have e3 := ClsV.all hp rv
  subst e3
  obtain ⟨qc, qd, qt, qs⟩ := ob
  simp only at g2 g3
  subst g2 g3
  exact PySem.W.kia_tup (PySem.W.handS_kitx_exc C.hg C.hk C.hs C.hd C.ha C.hn C.ht C.hm) I.kIn J g1 hk (fun z => nomatch z) fun tk => ⟨.bl b, H, I.tok tk, rfl, k _ _ _ q hL⟩
theorem kk_isE (K : PySem.W.Frag) (hz : Zc cls d oe) (hf : ∃ vs, oe.data = .fields vs) (h : X.K = K := by rfl) : CallL (X.suite a ((a, oe) :: pn)) (.builtin "isinstance") (gIsE K a cls d) := by
  subst h
  exact CallL.or (lk_isE1 hz hf) (CallL.or (lk_isET hz hf) lk_isi)
variable {K : PySem.W.Frag} {D C t : Addr} {L : Lg} {Q : LVK} {b : Bool}
theorem s_isE (hB : ExcCB K D = true) (hk : PySem.W.kitOne K (.ref D) (.ref C) = some b) (k : Q (.bl b) L) : gIsE K a (.ref D) none [.ref a, .ref C] L Q := .inl ⟨D, _, _, b, rfl, rfl, hB, rfl, .own C, hk, k⟩
theorem s_isEty {T : String} (hB : ExcCB K D = true) (hk : PySem.W.kitOne K (.ref D) (.type T) = some b) (k : Q (.bl b) L) : gIsE K a (.ref D) none [.ref a, .ty T] L Q := .inl ⟨D, _, _, b, rfl, rfl, hB, rfl, .ty T, hk, k⟩
theorem s_isET {cs : List V} {us : List Value} (hB : ExcCB K D = true) (ht : At L t (.tup cs)) (hp : Paired ClsV cs us) (hk : PySem.W.kitAny K (.ref D) us = some b) (k : Q (.bl b) L) : gIsE K a (.ref D) none [.ref a, .ref t] L Q := .inr (.inl ⟨D, t, cs, us, b, rfl, rfl, hB, rfl, ht, hp, hk, k⟩)
theorem kany_nil {x : Value} : PySem.W.kitAny K x [] = some false := rfl
theorem kany_t {x c : Value} {cs : List Value} (h : PySem.W.kitOne K x c = some true) : PySem.W.kitAny K x (c :: cs) = some true := by unfold PySem.W.kitAny; rw [h]
theorem kany_f {x c : Value} {cs : List Value} (h : PySem.W.kitOne K x c = some false) (r : PySem.W.kitAny K x cs = some b) : PySem.W.kitAny K x (c :: cs) = some b := by
  unfold PySem.W.kitAny
  rw [h]
  exact r
end
/-! ### the rules with the written part named -/
section
variable {X : Cx} (K : PySem.W.Frag) {x n : Str} {c : Value} {i : Nat} {body suite orelse : List Stmt} {b₀ : Stmt} {np pos pos' : Pos} {tb : WX → LTS} {ts : LSu} {Wout : WX} {h₀ : ExceptHandler} {hds : List ExceptHandler} {l : List (Value × LSu)} {u : LTS} {E : XK}
theorem kls_tryAs (hN : X.N.Nodup) (hi : X.N[i]? = some n) (hln : X.env.kindOf n = some .local) (hc : Names X x c) (tk : Takes X Wout) (hb : BoOk X body tb) (hsu : SuOk X (b₀ :: suite) ts) (h : X.K = K := by rfl) (hs : X.stack = X.env :: X.outer := by rfl) (hf : X.env.frame = some X.env.locals := by rfl) :
    LS X (.Try body [.ExceptHandler (some (.Name x np)) (some n) (b₀ :: suite) pos'] [] [] pos) (lTryAs K c i tb ts Wout) := by
  subst h
  exact ls_tryAs hN hi hln hc tk hb hsu hs hf
theorem kls_tryMany (tk : Takes X Wout) (hb : BoOk X body tb) (hh : HdsL X (h₀ :: hds) l) (h : X.K = K := by rfl) (hs : X.stack = X.env :: X.outer := by rfl) (hf : X.env.frame = some X.env.locals := by rfl) : LS X (.Try body (h₀ :: hds) [] [] pos) (lTryMany K l tb Wout) := by
  subst h
  exact ls_tryMany tk hb hh hs hf
theorem kls_tryManyE (ho : LSs X orelse u) (tk : Takes X Wout) (hb : BoOk X body tb) (hh : HdsL X (h₀ :: hds) l) (h : X.K = K := by rfl) (hs : X.stack = X.env :: X.outer := by rfl) (hf : X.env.frame = some X.env.locals := by rfl) : LS X (.Try body (h₀ :: hds) orelse [] pos) (lTryManyE K l tb u Wout) := by
  subst h
  exact ls_tryManyE ho tk hb hh hs hf
theorem takes_ofD (hs : X.stack = X.env :: X.outer) (hf : X.env.frame = some X.env.locals) (hex : X.ex = []) {E₁ : Value → Shared → Prop}
    (hx : X.xe = fun e s' => wpAny (model X.prog X.w) X.A (leaving X.env e) (fun _ s'' => L2.CX X.prog X.w X.outer X.H_0 X.s_0 E e s'') E₁ s') : Takes X (WD E) := takes_of hs hf hex hx
end
theorem bindsX0 {K : PySem.W.Frag} {fd : FuncData} {ps : List Str} (h : Binds K fd ps []) : ∀ j, j ≤ ([] : List V).length → ∃ ds, Vals (([] : List V).drop j) ds ∧ Binds K fd ps ds := fun j _ => ⟨[], by simp; exact .nil, h⟩
theorem WL.by_ {W : WX} {σ : St} {c : Value} {d : Option Addr} {L L' : Lg} (l : Lic L L') (h : WL W σ c d L') : WL W σ c d L := fun H hL => h H (l H hL)
/-! promises with a refusal -/
def sp1X (P : V → Lg → LVK → LXK → Prop) : LSp := fun vs L Q E => ∃ a, vs = [a] ∧ P a L Q E
def sp2X (P : V → V → Lg → LVK → LXK → Prop) : LSp := fun vs L Q E => ∃ a b, vs = [a, b] ∧ P a b L Q E
def sp3X (P : V → V → V → Lg → LVK → LXK → Prop) : LSp := fun vs L Q E => ∃ a b c, vs = [a, b, c] ∧ P a b c L Q E
def sp4X (P : V → V → V → V → Lg → LVK → LXK → Prop) : LSp := fun vs L Q E => ∃ a b c d, vs = [a, b, c, d] ∧ P a b c d L Q E
def sp5X (P : V → V → V → V → V → Lg → LVK → LXK → Prop) : LSp := fun vs L Q E => ∃ a b c d e, vs = [a, b, c, d, e] ∧ P a b c d e L Q E
def sp6X (P : V → V → V → V → V → V → Lg → LVK → LXK → Prop) : LSp := fun vs L Q E => ∃ a b c d e f, vs = [a, b, c, d, e, f] ∧ P a b c d e f L Q E
theorem len1X {P : V → Lg → LVK → LXK → Prop} {n : Nat} (h : n = 1) : ∀ vs L Q E, sp1X P vs L Q E → vs.length = n := fun _ _ _ _ ⟨_, e, _⟩ => by rw [e, h]; rfl
theorem len2X {P : V → V → Lg → LVK → LXK → Prop} {n : Nat} (h : n = 2) : ∀ vs L Q E, sp2X P vs L Q E → vs.length = n := fun _ _ _ _ ⟨_, _, e, _⟩ => by rw [e, h]; rfl
theorem len3X {P : V → V → V → Lg → LVK → LXK → Prop} {n : Nat} (h : n = 3) : ∀ vs L Q E, sp3X P vs L Q E → vs.length = n := fun _ _ _ _ ⟨_, _, _, e, _⟩ => by rw [e, h]; rfl
theorem len4X {P : V → V → V → V → Lg → LVK → LXK → Prop} {n : Nat} (h : n = 4) : ∀ vs L Q E, sp4X P vs L Q E → vs.length = n := fun _ _ _ _ ⟨_, _, _, _, e, _⟩ => by rw [e, h]; rfl
theorem len5X {P : V → V → V → V → V → Lg → LVK → LXK → Prop} {n : Nat} (h : n = 5) : ∀ vs L Q E, sp5X P vs L Q E → vs.length = n := fun _ _ _ _ ⟨_, _, _, _, _, e, _⟩ => by rw [e, h]; rfl
theorem len6X {P : V → V → V → V → V → V → Lg → LVK → LXK → Prop} {n : Nat} (h : n = 6) : ∀ vs L Q E, sp6X P vs L Q E → vs.length = n := fun _ _ _ _ ⟨_, _, _, _, _, _, e, _⟩ => by rw [e, h]; rfl
theorem st5 {σ : St} (h : σ.length = 5) : ∃ a b c d e, σ = [a, b, c, d, e] := by
  match σ, h with
  | [a, b, c, d, e], _ => exact ⟨a, b, c, d, e, rfl⟩
end VM

end

section
namespace VM
open PySem PySem.Spec L2
open PyProof.Rows hiding St

/-! ### min of a list of ints, min(.., default=None) -/
theorem minOf_le : ∀ (ys : List Int) (y : Int), PySem.W.minOf y ys ∈ y :: ys ∧ ∀ z ∈ y :: ys, PySem.W.minOf y ys ≤ z
  | [], y => ⟨by simp [PySem.W.minOf], fun z hz => by rw [List.mem_singleton.mp hz]; exact Int.le_refl _⟩
  | x :: ys, y => by
    have ih := minOf_le ys (if x < y then x else y)
    have e : PySem.W.minOf y (x :: ys) = PySem.W.minOf (if x < y then x else y) ys := by
      unfold PySem.W.minOf
      rw [List.foldl_cons]
      congr 1
      show (if decide (x < y) = true then x else y) = _
      by_cases h : x < y <;> simp [h]
    rw [e]
    obtain ⟨h1, h2⟩ := ih
    refine ⟨?_, fun z hz => ?_⟩
    · rcases List.mem_cons.mp h1 with h | h
      · rw [h]
        split <;> simp
      · simp [h]
    · have h3 := h2 _ (List.mem_cons_self)
      have h4 : (if x < y then x else y) ≤ x ∧ (if x < y then x else y) ≤ y := by split <;> omega
      rcases List.mem_cons.mp hz with h | h
      · rw [h]; omega
      · rcases List.mem_cons.mp h with h | h
        · rw [h]; omega
        · exact h2 z (List.mem_cons_of_mem _ h)
def rMinD (K : PySem.W.Frag) : List V → List V → Hp → VK → Prop := fun vs zs H Q => ∃ (a : Addr) (ns : List Int), vs = [.ref a] ∧ zs = [.non] ∧ SqL K H a (ns.map V.int) ∧ (ns = [] → Q .non H) ∧ ∀ m, m ∈ ns → (∀ y ∈ ns, m ≤ y) → Q (.int m) H
section
variable {X : Cx}
theorem cr_minD (hc : X.calm = true) (hu : X.A.units + 64 < cLine) : CallRK X (.builtin "min") [Str.ofString "default"] (rMinD X.K) := by
  intro pins s σ H vs zs us ws Q I r rz h
  obtain ⟨a, ns, rfl, rfl, hs, q0, q1⟩ := h
  obtain ⟨its, rv, hl, _⟩ := I.list hs
  rw [Vals.ref1 r]
  obtain ⟨w1, rfl, e1⟩ := vals1 rz
  have e2 : w1 = Value.none := e1
  subst e2
  have hi := rv.ints
  refine PySem.W.min_list_datum_default (α := Int) (xs := ns) (I.ok.hd hc) hl.isList (by rw [List.toList_toArray]; exact PySem.W.HoldAll.of_ints hi) (by show X.A.units + 1 + 0 < cLine; omega) (fun e h' tk k => ?_) fun y ys i v h' tk e hv hh k => ?_
  · exact ⟨.non, H, I.kept k, rfl, q0 e⟩
  · obtain ⟨as, rd⟩ := hh
    have rd' : PySem.Reads h' v (.int (PySem.W.minOf y ys)) as := rd
    obtain ⟨h1, h2⟩ := minOf_le ys y
    cases rd' with
    | int _ t => exact ⟨.int _, H, I.kept k, ⟨t, rfl⟩, q1 _ (by rw [e]; exact h1) (by rw [e]; exact h2)⟩
def MinDK (K : PySem.W.Frag) (Q : LVK) : LVK := fun x L => ∃ (a : Addr) (ns : List Int), x = .ref a ∧ IsL K L a (ns.map V.int) ∧ (ns = [] → Q .non L) ∧ ∀ m, m ∈ ns → (∀ y ∈ ns, m ≤ y) → Q (.int m) L
def lMinD (K : PySem.W.Frag) (ta : LTE) : LTE := fun σ L Q => ta σ L (MinDK K Q)
theorem kmin_d (K : PySem.W.Frag) {e : Expr} {j : Nat} {p pos kpos npos : Pos} {ta : LTE} (hu : X.A.units + 64 < cLine) (hg : Gl X "min") (hm : X.mg "min" = none) (ha : LE X e ta) (hc : X.calm = true := by rfl) (h : X.K = K := by rfl)
    (he : backTo pos (starEach [e] X.env) = (false, eval e X.env) :: backTo pos (starEach [] X.env) := by rfl) (hpl : (backTo pos (starEach [e] X.env)).any (·.1) = false := by rfl) (hs : starEach [e] X.env = (false, eval e X.env) :: starEach [] X.env := by rfl)
    (hall : (backToKw pos (keywordEach [⟨some "default", .Constant .none j npos, kpos⟩] X.env)).all (·.1.isSome) = true := by rfl) (hnone : (backToKw pos (keywordEach [⟨some "default", .Constant .none j npos, kpos⟩] X.env)).any (·.1.isNone) = false := by rfl) (hks : (backToKw pos (keywordEach [⟨some "default", .Constant .none j npos, kpos⟩] X.env)).filterMap (·.1) = [Str.ofString "default"] := by rfl) :
    LE X (.Call (.Name "min" p) [e] [⟨some "default", .Constant .none j npos, kpos⟩] pos) (lMinD K ta) := by
  subst h
  refine PE.imp (pe_callBK (cr_minD hc hu) hg hm (by decide +kernel) (pa_cons ha pa_nil hs) (pk_cons pe_non pk_nil) (by decide) (by decide) he hpl hall hnone hks) fun σ H Q hq => ?_
  obtain ⟨L, QL, hL, hq, k⟩ := hq
  refine ⟨L, _, hL, hq, fun x L1 H1 h1 hL1 => ?_⟩
  obtain ⟨a, ns, e1, hi, q0, q1⟩ := h1
  exact ⟨a, ns, by rw [e1], rfl, hi H1 hL1, fun z => k _ _ _ (q0 z) hL1, fun m h1 h2 => k _ _ _ (q1 m h1 h2) hL1⟩
def gMin1 (K : PySem.W.Frag) : LRC := fun xs L Q => ∃ (a : Addr) (ns : List Int), xs = [.ref a] ∧ IsL K L a (ns.map V.int) ∧ 0 < ns.length ∧ ∀ m, m ∈ ns → (∀ y ∈ ns, m ≤ y) → Q (.int m) L
theorem kk_min1 (K : PySem.W.Frag) (hc : X.calm = true := by rfl) (h : X.K = K := by rfl) : CallL X (.builtin "min") (gMin1 K) := by
  subst h
  exact CallR.imp (cr_min hc) fun xs H Q ⟨L, QL, hL, ⟨a, ns, e, hi, hn, q⟩, k⟩ => ⟨a, ns, e, hi H hL, hn, fun m h1 h2 => k _ _ _ (q m h1 h2) hL⟩
variable {K : PySem.W.Frag} {σ : St} {L L1 : Lg} {Q : LVK} {ta : LTE} {p a : Addr} {xs : List V} {ns : List Int} {x : Int}
instance j_minD : S1 (lMinD K ta σ L Q) (ta σ L (MinDK K Q)) := ⟨id⟩
theorem s_minD (h : IsL K L p xs) (v : IntsV xs ns) (h0 : ns = [] → Q .non L) (k : ∀ m, m ∈ ns → (∀ y ∈ ns, m ≤ y) → Q (.int m) L) : MinDK K Q (.ref p) L := ⟨p, ns, rfl, by have := v.eq; subst this; exact h, h0, k⟩
theorem s_min1 (h : IsL K L p xs) (v : IntsV xs ns) (h0 : 0 < ns.length) (k : ∀ m, m ∈ ns → (∀ y ∈ ns, m ≤ y) → Q (.int m) L) : gMin1 K [.ref p] L Q := ⟨p, ns, rfl, by have := v.eq; subst this; exact h, h0, k⟩
end
/-! ### walks over a dict's keys: the dict stands still from then on -/
def wkK (a : Addr) (od : Obj) (kvs : List (Key × V)) : LWk := ⟨kvs.length, fun L => At L a (.frz od (.dK kvs)), fun i L x L' => L' = L ∧ ∃ k v, kvs[i]? = some (k, v) ∧ x = kV k⟩
def KeyK (R : LWk → Lg → Prop) : V → Lg → Prop := fun x L1 => ∃ (a : Addr) (kvs : List (Key × V)), x = .ref a ∧ ((∃ L2 : Obj → Lg, ∀ od, Wr a (.dK kvs) (.frz od (.dK kvs)) L1 (L2 od) ∧ R (wkK a od kvs) (L2 od)) ∨ ∃ od, At L1 a (.frz od (.dK kvs)) ∧ R (wkK a od kvs) L1)
def kKeys (tl : LTE) : LTI := fun σ L R => tl σ L (KeyK R)
theorem ki_keys {X : Cx} {tg e : Expr} {tl : LTE} (hl : LE X e tl) : LI X tg e (kKeys tl) := by
  have hx : PE X e (fun σ H Q => Up (tl σ) H fun x H1 => ∃ (a : Addr) (kvs : List (Key × V)), x = .ref a ∧ ((H1 a = some (.dK kvs) ∧ ∀ od, Q x (upd H1 a (.frz od (.dK kvs)))) ∨ ∃ od, H1 a = some (.frz od (.dK kvs)) ∧ Q x H1)) := by
    refine ⟨fun pins s σ H Q I h => ?_⟩
    refine wpAny_mono (hl.run pins s σ H _ I h) (fun u s1 z => ?_) fun _ _ z => z
    obtain ⟨x, H1, I1, rx, a, kvs, e1, hd⟩ := z
    rcases hd with ⟨hd, q⟩ | ⟨od, hd, q⟩
    · obtain ⟨od, J⟩ := I1.lock hd True.intro
      exact ⟨x, _, J, rx, q od⟩
    · exact ⟨x, H1, I1, rx, q⟩
  refine PI.imp (pi_keys hx) fun σ H R h => ?_
  obtain ⟨L, RL, hL, h, k⟩ := h
  refine ⟨L, _, hL, h, fun x L1 H1 h1 hL1 => ?_⟩
  obtain ⟨a, kvs, rfl, hd⟩ := h1
  have sim : ∀ od : Obj, Sim (Itk a od kvs) (wkK a od kvs) := fun od => walk_keys.mono (fun H ⟨L, l, g⟩ => g H l) fun i H x H' hi g y L l _ => by
    obtain ⟨rfl, y2⟩ := y
    exact ⟨L, l, rfl, y2⟩
  refine ⟨a, kvs, rfl, ?_⟩
  rcases hd with ⟨L2, hw⟩ | ⟨od, ha, q⟩
  · refine .inl ⟨(hw default).1.at_ H1 hL1, fun od => ?_⟩
    obtain ⟨w, q⟩ := hw od
    refine ⟨a, od, rfl, .inl ⟨kvs, upd_same, ?_⟩⟩
    exact k _ _ _ _ q (w.led hL1) (sim od)
  · exact .inr ⟨od, ha H1 hL1, a, od, rfl, .inl ⟨kvs, ha H1 hL1, k _ _ _ _ q hL1 (sim od)⟩⟩
section
variable {σ : St} {L L1 : Lg} {R : LWk → Lg → Prop} {tl : LTE}
instance j_keys : S1 (kKeys tl σ L R) (tl σ L (KeyK R)) := ⟨id⟩
end
/-! ### dicts of data by ints -/
/-- a dict that is read, frozen or not -/
def DkU (u : HO) (kvs : List (Key × V)) : Prop := u = .dK kvs ∨ ∃ od, u = .frz od (.dK kvs)
def lookE {β : Type} (es : List (Int × β)) (k : Int) : Option β := (es.find? fun e => decide (e.1 = k)).map (·.2)
def DicD (c : Chunk) (p : Addr) (es : List (Int × PyData)) : Prop := ∃ (kvs : List (Key × V)) (C : Chunk), c = (p, HO.dK kvs) :: C ∧ kvs.map (·.1) = es.map (fun e => (.inl e.1 : Key)) ∧ TelAll C (kvs.map (·.2)) (es.map (·.2))
/-- .. told, whether it stands still or not -/
def DicF (c : Chunk) (p : Addr) (es : List (Int × PyData)) : Prop := ∃ (u : HO) (kvs : List (Key × V)) (C : Chunk), c = (p, u) :: C ∧ DkU u kvs ∧ kvs.map (·.1) = es.map (fun e => (.inl e.1 : Key)) ∧ TelAll C (kvs.map (·.2)) (es.map (·.2))
theorem DicD.f {c : Chunk} {p : Addr} {es : List (Int × PyData)} (h : DicD c p es) : DicF c p es := let ⟨kvs, C, h1, h2, h3⟩ := h; ⟨_, kvs, C, h1, .inl rfl, h2, h3⟩
theorem DicD.nil {p : Addr} : DicD [(p, .dK [])] p [] := ⟨[], [], rfl, rfl, .nil⟩
theorem look_val {C : Chunk} {k : Int} : ∀ {kvs : List (Key × V)} {es : List (Int × PyData)}, kvs.map (·.1) = es.map (fun e => (.inl e.1 : Key)) → TelAll C (kvs.map (·.2)) (es.map (·.2)) →
    (lookE es k = none → valV kvs (.inl k) = none) ∧ ∀ d, lookE es k = some d → ∃ v, valV kvs (.inl k) = some v ∧ Tel C v d
  | [], [], _, _ => ⟨fun _ => rfl, fun d h => by cases h⟩
  | [], _ :: _, h, _ => by cases h
  | _ :: _, [], h, _ => by cases h
  | (k1, v1) :: kvs, (k2, d2) :: es, h, t => by
    simp only [List.map_cons, List.cons.injEq] at h
    obtain ⟨h1, h2⟩ := h
    cases t with
    | cons ta tb =>
      have ih := look_val (k := k) h2 tb
      by_cases e : k2 = k
      · have e1 : lookE ((k2, d2) :: es) k = some d2 := by unfold lookE; rw [List.find?_cons_of_pos (by simpa using e)]; rfl
        have e2 : valV ((k1, v1) :: kvs) (.inl k) = some v1 := L2.valV_pos (by rw [h1, e])
        rw [e1, e2]
        exact ⟨fun z => (by cases z), fun d hd => ⟨v1, rfl, by rw [← Option.some.inj hd]; exact ta⟩⟩
      · have e1 : lookE ((k2, d2) :: es) k = lookE es k := by unfold lookE; rw [List.find?_cons_of_neg (by simpa using e)]
        have e2 : valV ((k1, v1) :: kvs) (.inl k) = valV kvs (.inl k) := L2.valV_neg (by rw [h1]; intro z; exact e (Sum.inl.inj z))
        rw [e1, e2]
        exact ih
theorem lookE_snoc {β : Type} {es : List (Int × β)} {k x : Int} {d : β} (h : lookE es k = none) : lookE (es ++ [(k, d)]) x = if x = k then some d else lookE es x := by
  unfold lookE at *
  rw [List.find?_append]
  by_cases e : x = k
  · subst e
    rw [if_pos rfl]
    rw [Option.map_eq_none_iff] at h
    rw [h, List.find?_cons_of_pos (by simp)]
    rfl
  · rw [if_neg e]
    cases hf : es.find? (fun e => decide (e.1 = x)) with
    | some y => rfl
    | none => rw [List.find?_cons_of_neg (by simpa using fun z => e z.symm)]; rfl
section
variable {K : PySem.W.Frag} {L L1 L2 : Lg} {c : Chunk} {p : Addr} {es : List (Int × PyData)} {x : Int} {Q : LVK} {d : PyData} {v : V} {cs : List Chunk}
theorem DicF.get (h : DicF c p es) (hm : c ∈ L) : ∃ kvs, (∀ H, Led H L → Rd H p (.dK kvs)) ∧ kvs.map (·.1) = es.map (fun e => (.inl e.1 : Key)) ∧ TelAll c (kvs.map (·.2)) (es.map (·.2)) := by
  obtain ⟨u, kvs, C, rfl, hu, hk, ht⟩ := h
  refine ⟨kvs, fun H l => ?_, hk, ht.mono fun x hx => List.mem_cons_of_mem _ hx⟩
  have e := l.get _ hm (p, u) List.mem_cons_self
  rcases hu with rfl | ⟨od, rfl⟩
  · exact .inl e
  · exact .inr ⟨od, e⟩
theorem dget_rd {kvs : List (Key × V)} (h : ∀ H, Led H L → Rd H p (.dK kvs)) (k : Int) : DGetL L p (.int k) (valV kvs (.inl k)) := fun H l => .inl ⟨kvs, .inl k, h H l, rfl, rfl⟩
theorem s_in_dd (h : DicF c p es) (hm : c ∈ L) (k : Q (.bl (lookE es x).isSome) L) : gIn K false (.int x) (.ref p) L Q := by
  obtain ⟨kvs, h1, h2, h3⟩ := h.get hm
  have lv := look_val (k := x) h2 h3
  refine .inr ⟨p, _, rfl, dget_rd h1 x, ?_⟩
  have e : (valV kvs (.inl x)).isSome = (lookE es x).isSome := by
    cases hl : lookE es x with
    | none => rw [lv.1 hl]; rfl
    | some d => obtain ⟨v, e, _⟩ := lv.2 d hl; rw [e]; rfl
  rw [if_neg (by decide), e]
  exact k
theorem s_nin_dd (h : DicF c p es) (hm : c ∈ L) (k : Q (.bl (!(lookE es x).isSome)) L) : gIn K true (.int x) (.ref p) L Q := by
  obtain ⟨kvs, h1, h2, h3⟩ := h.get hm
  have lv := look_val (k := x) h2 h3
  refine .inr ⟨p, _, rfl, dget_rd h1 x, ?_⟩
  have e : (valV kvs (.inl x)).isSome = (lookE es x).isSome := by
    cases hl : lookE es x with
    | none => rw [lv.1 hl]; rfl
    | some d => obtain ⟨v, e, _⟩ := lv.2 d hl; rw [e]; rfl
  rw [if_pos rfl, e]
  exact k
theorem s_ix_dd (h : DicF c p es) (hm : c ∈ L) (e : lookE es x = some d) (k : ∀ v, Tel c v d → Q v L) : gIx K (.ref p) (.int x) L Q := by
  obtain ⟨kvs, h1, h2, h3⟩ := h.get hm
  obtain ⟨v, e1, t⟩ := (look_val (k := x) h2 h3).2 d e
  exact .inr (.inr ⟨p, v, rfl, by rw [← e1]; exact dget_rd h1 x, k v t⟩)
/-- a new key -/
theorem s_set_dd {Q : Lg → Prop} (h : DicD c p es) (hv : Tel cs.flatten v d) (hp : Pulls cs L L1) (hc : Pull c L1 L2) (hn : lookE es x = none) (hz : es.length < 1000000) (k : ∀ c', DicD c' p (es ++ [(x, d)]) → Wk Q (c' :: L2)) : gSet (.ref p) (.int x) v L (Wk Q) := by
  obtain ⟨kvs, C, rfl, hk, ht⟩ := h
  obtain ⟨L3, p3, q3⟩ := hp.sw hc
  obtain ⟨L4, w4, p4⟩ := Pull.wr (A := []) (B := C) (o := .dK kvs) (o' := .dK (putK kvs (.inl x) v)) p3
  have hkl : kvs.length = es.length := by have := congrArg List.length hk; rwa [List.length_map, List.length_map] at this
  have hput : putK kvs (.inl x) v = kvs ++ [(.inl x, v)] := _root_.L2.putK_new v ((look_val (k := x) hk ht).1 hn)
  refine s_set_d (kvs := kvs) w4 (by omega) ?_
  obtain ⟨L5, l5, q5⟩ := k ((p, .dK (putK kvs (.inl x) v)) :: (C ++ cs.flatten)) ⟨_, _, rfl, by rw [hput, List.map_append, List.map_append, hk]; rfl, by
    rw [hput, List.map_append, List.map_append]
    exact TelAll.snoc (hv.mono fun y hy => List.mem_append_right _ hy) (ht.mono fun y hy => List.mem_append_left _ hy)⟩
  refine ⟨L5, Lic.trans (LicS.lic ?_) l5, q5⟩
  refine LicS.trans (LicS.pull p4 q3.lic) ?_
  exact LicS.of_flat (by simp [List.flatten])
end
end VM

end

section
namespace VM
open PySem PySem.Spec L2
open PyProof.Rows hiding St

/-! ### walks over the keys of a dict of data -/
/-- it stands still -/
def FrzD (c : Chunk) (p : Addr) (od : Obj) (kvs : List (Key × V)) (es : List (Int × PyData)) : Prop := ∃ C : Chunk, c = (p, HO.frz od (.dK kvs)) :: C ∧ kvs.map (·.1) = es.map (fun e => (.inl e.1 : Key)) ∧ TelAll C (kvs.map (·.2)) (es.map (·.2))
theorem FrzD.f {c : Chunk} {p : Addr} {od : Obj} {kvs : List (Key × V)} {es : List (Int × PyData)} (h : FrzD c p od kvs es) : DicF c p es := let ⟨C, h1, h2, h3⟩ := h; ⟨_, kvs, C, h1, .inr ⟨od, rfl⟩, h2, h3⟩
section
variable {K : PySem.W.Frag} {σ σw : St} {L L1 : Lg} {c : Chunk} {p a : Addr} {es : List (Int × PyData)} {R : LWk → Lg → Prop} {od : Obj} {kvs : List (Key × V)} {gg : LTG} {tt : LTT} {te : LTE} {vw : List Nat} {Dl : Addr} {Q : LVK}
theorem s_keysD (h : DicF c p es) (hp : Pull c L L1) (k : ∀ od kvs c' L4, FrzD c' p od kvs es → LicS L4 (c' :: L1) → R (wkK p od kvs) L4) : KeyK R (.ref p) L := by
  obtain ⟨u, kvs, C, rfl, hu, hk, ht⟩ := h
  refine ⟨p, kvs, rfl, ?_⟩
  rcases hu with rfl | ⟨od, rfl⟩
  · refine .inl ?_
    have := fun od : Obj => Pull.wr (A := []) (B := C) (o := .dK kvs) (o' := .frz od (.dK kvs)) hp
    obtain ⟨L2, h2⟩ := Classical.skolem.mp this
    exact ⟨L2, fun od => ⟨(h2 od).1, k od kvs _ _ ⟨C, rfl, hk, ht⟩ (LicS.pull (h2 od).2 LicS.refl)⟩⟩
  · refine .inr ⟨od, fun H l => l.get _ hp.mem _ List.mem_cons_self, k od kvs _ _ ⟨C, rfl, hk, ht⟩ (LicS.pull hp LicS.refl)⟩
theorem c_keys (Pv : Nat → List V → Lg → Prop) {σw : St} (hw : wipe σ vw = σw) (h0 : Wk (Pv 0 []) L) (hG : ∀ i acc L, Pv i acc L → At ([(Dl, .lst acc)] :: L) a (.frz od (.dK kvs))) (hs : ∀ i acc k v L, kvs[i]? = some (k, v) → Pv i acc L → gg (kV k) σw ([(Dl, .lst acc)] :: L) (LcT tt te Dl acc (Pv (i + 1)) σw vw)) (hd : ∀ acc L, Pv kvs.length acc L → Wk (Q (.ref Dl)) ([(Dl, .lst acc)] :: L)) : LcR (wkK a od kvs) gg tt te vw σ Dl L Q := by
  refine ⟨Pv, h0, fun i acc L _ h => hG i acc L h, fun i acc x L L' hi p _ ⟨e1, k, v, e2, e3⟩ => ?_, fun acc L p _ => hd acc L p⟩
  subst e1; subst hw; subst e3
  exact hs i acc k v _ e2 p
theorem a_filtK (f : Int → Bool) (h : FrzD c p od kvs es) (hl : LicS L (c :: L1)) (hw : wipe σ vw = σw) (hz : es.length ≤ 1000000)
    (hs : ∀ (x : Int) (acc : List V) (Dl : Addr), x ∈ es.map (·.1) → acc.length < 1000000 → gg (.int x) σw ([(Dl, .lst acc)] :: c :: L1) (LcT tt te Dl acc (AccB acc (f x) (.int x) (c :: L1)) σw vw))
    (hd : ∀ Dl, Wk (Q (.ref Dl)) ([(Dl, .lst (((es.map (·.1)).filter f).map V.int))] :: c :: L1)) : ∀ Dl, Dl ∉ keys L → LcR (wkK p od kvs) gg tt te vw σ Dl L Q := fun Dl _ => by
  obtain ⟨C, rfl, hk, ht⟩ := h
  have hkl : kvs.length = es.length := by have := congrArg List.length hk; rwa [List.length_map, List.length_map] at this
  refine c_keys (fun i acc L' => acc = (((es.map (·.1)).take i).filter f).map V.int ∧ i ≤ es.length ∧ L' = ((p, HO.frz od (.dK kvs)) :: C) :: L1) hw ?_ (fun i acc L' h => ?_) ?_ ?_
  · exact Wk.by_ hl.lic ⟨by simp, Nat.zero_le _, rfl⟩
  · rw [h.2.2]; exact fun H l => l.get _ (List.mem_cons_of_mem _ List.mem_cons_self) _ List.mem_cons_self
  · rintro i acc k v L' hi ⟨rfl, hl, rfl⟩
    have hlt : i < es.length := by have := (List.getElem?_eq_some_iff.mp hi).1; omega
    obtain ⟨y, hy⟩ : ∃ y, es[i]? = some y := ⟨_, List.getElem?_eq_getElem hlt⟩
    have hkk : k = .inl y.1 := by
      have e1 : (kvs.map (·.1))[i]? = some k := by rw [List.getElem?_map, hi]; rfl
      have e2 : (es.map (fun e => (.inl e.1 : Key)))[i]? = some (.inl y.1) := by rw [List.getElem?_map, hy]; rfl
      rw [hk, e2] at e1
      exact (Option.some.inj e1).symm
    subst hkk
    have hy1 : (es.map (·.1))[i]? = some y.1 := by rw [List.getElem?_map, hy]; rfl
    have hle : (((es.map (·.1)).take i).filter f).length ≤ i := Nat.le_trans (List.length_filter_le _ _) (by simp; omega)
    have := hs y.1 ((((es.map (·.1)).take i).filter f).map V.int) Dl (List.mem_of_getElem? hy1) (by rw [List.length_map]; omega)
    have e : AccB ((((es.map (·.1)).take i).filter f).map V.int) (f y.1) (.int y.1) (((p, HO.frz od (.dK kvs)) :: C) :: L1) = fun acc' L'' => acc' = (((es.map (·.1)).take (i + 1)).filter f).map V.int ∧ i + 1 ≤ es.length ∧ L'' = ((p, HO.frz od (.dK kvs)) :: C) :: L1 := by
      funext a b
      unfold AccB
      rw [List.take_succ, hy1]
      have : i + 1 ≤ es.length := hlt
      cases hf : f y.1 <;> simp [this, hf]
    rw [e] at this
    exact this
  · rintro acc L' ⟨rfl, _, rfl⟩
    rw [hkl, List.take_of_length_le (by rw [List.length_map]; exact Nat.le_refl _)]
    exact hd Dl
/-- sorted(d) -/
theorem s_sortedDD (h : DicD c p es) (hm : c ∈ L) (hz : es.length < 64) (k : ∀ (ys : List Int) (q : Addr), ys.Perm (es.map (·.1)) → ys.Pairwise (· ≤ ·) → Q (.ref q) ([(q, .lst (ys.map V.int))] :: L)) : gSortedD [.ref p] L Q := by
  obtain ⟨kvs, C, rfl, hk, ht⟩ := h
  refine s_sortedD (kvs := kvs) (ks := es.map (·.1)) (fun H l => l.get _ hm _ List.mem_cons_self) ?_ (by rw [List.length_map]; exact hz) k
  rw [hk, List.map_map]
  rfl
end
end VM

end

section
namespace VM
open PySem PySem.Spec L2
open PyProof.Rows hiding St

/-! ### enumerate(list) -/
def wkE (K : PySem.W.Frag) (a : Addr) (xs : List V) : LWk := ⟨xs.length, fun L => IsL K L a xs, fun i L x L' => ∃ p v, p ∉ keys L ∧ x = .ref p ∧ L' = [(p, .tup [.int (i : Int), v])] :: L ∧ xs[i]? = some v⟩
theorem sim_e {K : PySem.W.Frag} {a : Addr} {xs : List V} : Sim (Ite K a) (wkE K a xs) := walk_enum.mono (fun H ⟨L, l, h1⟩ => h1 H l) fun i H x H' hi g y L l _ => by
  obtain ⟨p, u, v, e1, hp, e2, h1, h2⟩ := y
  subst e1; subst e2
  cases Option.some.inj h1
  exact ⟨_, l.new hp, p, v, l.fresh hp, rfl, rfl, h2⟩
def EnumK (K : PySem.W.Frag) (R : LWk → Lg → Prop) : List V → Lg → Prop := fun vs L1 => ∃ a xs, vs = [.ref a] ∧ IsL K L1 a xs ∧ R (wkE K a xs) L1
def kEnum (K : PySem.W.Frag) (ta : LTA) : LTI := fun σ L R => ta σ L (EnumK K R)
theorem li_enum {X : Cx} {e : Expr} {ta : LTA} {p pos tpos : Pos} {elts : List Expr} {kk : Nat} (hg : Gl X "enumerate") (hm : X.mg "enumerate" = none) (ha : LA X [e] ta)
    (hs : starEach [e] X.env = [(false, eval e X.env)] := by rfl) : LI X (.Tuple elts kk tpos) (.Call (.Name "enumerate" p) [e] [] pos) (kEnum X.K ta) := by
  refine PI.imp (pi_enum hg hm ha hs) fun σ H R h => ?_
  obtain ⟨L, RL, hL, h, k⟩ := h
  exact ⟨L, _, hL, h, fun vs L1 H1 ⟨a, xs, e, h1, h3⟩ l => ⟨a, xs, e, h1 H1 l, k _ _ _ _ h3 l sim_e⟩⟩
theorem ki_enum {X : Cx} (K : PySem.W.Frag) {e : Expr} {ta : LTA} {p pos tpos : Pos} {elts : List Expr} {kk : Nat} (hg : Gl X "enumerate") (hm : X.mg "enumerate" = none) (ha : LA X [e] ta)
    (hs : starEach [e] X.env = [(false, eval e X.env)] := by rfl) (h : X.K = K := by rfl) : LI X (.Tuple elts kk tpos) (.Call (.Name "enumerate" p) [e] [] pos) (kEnum K ta) := by subst h; exact li_enum hg hm ha hs
section
variable {K : PySem.W.Frag} {σ σw : St} {L : Lg} {R : LWk → Lg → Prop} {tr : LTA} {a : Addr} {xs : List V} {gg : LTG} {tt : LTT} {te : LTE} {vw : List Nat} {Dl : Addr} {Q : LVK} {tb : LTS} {n0 : St → Lg → Prop} {r0 : LVK} {b0 c0 : St → Lg → Prop}
instance j_enum : S1 (kEnum K tr σ L R) (tr σ L (EnumK K R)) := ⟨id⟩
theorem s_enumv (h1 : IsL K L a xs) (k : R (wkE K a xs) L) : EnumK K R [.ref a] L := ⟨a, xs, rfl, h1, k⟩
theorem c_enum (Pv : Nat → List V → Lg → Prop) {σw : St} (hw : wipe σ vw = σw) (h0 : Wk (Pv 0 []) L) (hG : ∀ i acc L, Pv i acc L → IsL K ([(Dl, .lst acc)] :: L) a xs) (hs : ∀ (i : Nat) acc v p L, xs[i]? = some v → Pv i acc L → gg (.ref p) σw ([(p, .tup [.int (i : Int), v])] :: [(Dl, .lst acc)] :: L) (LcT tt te Dl acc (Pv (i + 1)) σw vw)) (hd : ∀ acc L, Pv xs.length acc L → Wk (Q (.ref Dl)) ([(Dl, .lst acc)] :: L)) : LcR (wkE K a xs) gg tt te vw σ Dl L Q := by
  refine ⟨Pv, h0, fun i acc L _ h => hG i acc L h, fun i acc x L L' hi p _ y => ?_, fun acc L p _ => hd acc L p⟩
  obtain ⟨q, v, hq, rfl, rfl, hx⟩ := y
  subst hw
  exact hs i acc v q _ hx p
theorem a_intsE (g : Nat → Int) {ns : List Int} (hx : IsL K L a xs) (hv : IntsV xs ns) (hw : wipe σ vw = σw) (hz : ns.length ≤ 1000000)
    (hs : ∀ (i : Nat) (x : Int) (acc : List V) (Dl p : Addr), ns[i]? = some x → acc.length < 1000000 → gg (.ref p) σw ([(p, .tup [.int (i : Int), .int x])] :: [(Dl, .lst acc)] :: L) (LcT tt te Dl acc (AccI acc (.int (g i)) L) σw vw))
    (hd : ∀ Dl, Wk (Q (.ref Dl)) ([(Dl, .lst (((List.range ns.length).map g).map V.int))] :: L)) : ∀ Dl, Dl ∉ keys L → LcR (wkE K a xs) gg tt te vw σ Dl L Q := fun Dl _ => by
  have hv := hv.eq
  subst hv
  refine c_enum (fun i acc L' => acc = ((List.range i).map g).map V.int ∧ i ≤ ns.length ∧ L' = L) hw (Wk.go ⟨rfl, Nat.zero_le _, rfl⟩) (fun i acc L' h => ?_) ?_ ?_
  · rw [h.2.2]; exact IsL.tl hx
  · rintro i acc v p L' hi ⟨rfl, hl, rfl⟩
    rw [List.getElem?_map] at hi
    obtain ⟨y, hy, rfl⟩ := Option.map_eq_some_iff.mp hi
    have hlt : i < ns.length := (List.getElem?_eq_some_iff.mp hy).1
    have := hs i y (((List.range i).map g).map V.int) Dl p hy (by simp; omega)
    have e : AccI (((List.range i).map g).map V.int) (.int (g i)) L' = fun acc' L'' => acc' = ((List.range (i + 1)).map g).map V.int ∧ i + 1 ≤ ns.length ∧ L'' = L' := by
      funext a b
      unfold AccI
      rw [map_snoc]
      have : i + 1 ≤ ns.length := hlt
      simp [this]
    rw [e] at this
    exact this
  · rintro acc L' ⟨rfl, _, rfl⟩
    rw [List.length_map]
    exact hd Dl
end
/-! ### comprehensions of which only a law of each item is told -/
section
variable {K : PySem.W.Frag} {σ σw : St} {L L4 : Lg} {a p Dl : Addr} {xs ys : List V} {gg : LTG} {tt : LTT} {te : LTE} {vw : List Nat} {Q : LVK} {as : List Addr} {rows : List (List Int)} {ns ms r : List Int} {n i : Nat} {lo x : Int}
def RowsX (P : List Int → Prop) (i : Nat) (L : Lg) : List V → Lg → Prop := fun acc L' => ∃ (as : List Addr) (rows : List (List Int)), acc = as.map V.ref ∧ as.length = i ∧ rows.length = i ∧ (∀ r ∈ rows, P r) ∧ L' = cellsL as rows :: L
theorem s_lcyX {P : List Int → Prop} (h : At L4 a (.lst ys)) (v : IntsV ys r) (hp : P r) (hl : as.length = i) (hl2 : rows.length = i) (hr : ∀ r ∈ rows, P r) (hz : i < 1000000)
    (l : LicS L4 ([(a, .lst ys)] :: [(Dl, .lst (as.map V.ref))] :: cellsL as rows :: L)) : LcY Dl (as.map V.ref) (RowsX P (i + 1) L) (.ref a) L4 := by
  have e' := v.eq
  subst e'
  refine s_lcy (by simp; omega) (Lic.trans l.lic (lic_turn (by omega))) ⟨as ++ [a], rows ++ [r], by simp, by simp [hl], by simp [hl2], fun r' h' => ?_, rfl⟩
  rcases List.mem_append.mp h' with h' | h'
  · exact hr r' h'
  · rw [List.mem_singleton.mp h']; exact hp
theorem a_rowsX (P : List Int → Prop) (hw : wipe σ vw = σw)
    (hs : ∀ (i : Nat) (as : List Addr) (rows : List (List Int)) (Dl : Addr), i < n → as.length = i → rows.length = i → (∀ r ∈ rows, P r) → gg (.int (i : Int)) σw ([(Dl, .lst (as.map V.ref))] :: cellsL as rows :: L) (LcT tt te Dl (as.map V.ref) (RowsX P (i + 1) L) σw vw))
    (hd : ∀ (Dl : Addr) (as : List Addr) (rows : List (List Int)), as.length = n → rows.length = n → (∀ r ∈ rows, P r) → Wk (Q (.ref Dl)) (volC Dl as rows :: L)) : ∀ Dl, Dl ∉ keys L → LcR (wkR 0 n) gg tt te vw σ Dl L Q := fun Dl _ => by
  refine c_range0 (fun i acc L' => RowsX P i L acc L') hw (Wk.by_ lic_cells_nil ⟨[], [], rfl, rfl, rfl, by simp, rfl⟩) ?_ ?_
  · rintro i acc L' hi ⟨as, rows, rfl, ha, hb, hc, rfl⟩
    exact hs i as rows Dl hi ha hb hc
  · rintro acc L' ⟨as, rows, rfl, ha, hb, hc, rfl⟩
    obtain ⟨L5, l, q⟩ := hd Dl as rows ha hb hc
    exact ⟨L5, Lic.trans lic_vol l, q⟩
def IntsX (P : Int → Prop) (i : Nat) (L : Lg) : List V → Lg → Prop := fun acc L' => ∃ ms : List Int, acc = ms.map V.int ∧ ms.length = i ∧ (∀ m ∈ ms, P m) ∧ L' = L
theorem s_lcyIX {P : Int → Prop} (hc : P x) (h : ms.length = i) (hm : ∀ m ∈ ms, P m) (hz : i < 1000000) (l : Lic L4 ([(Dl, .lst (ms.map V.int))] :: L)) : LcY Dl (ms.map V.int) (IntsX P (i + 1) L) (.int x) L4 := s_lcy (by rw [List.length_map]; omega) l ⟨ms ++ [x], by simp, by simp [h], fun m h' => by
  rcases List.mem_append.mp h' with h' | h'
  · exact hm m h'
  · rw [List.mem_singleton.mp h']; exact hc, rfl⟩
theorem a_intX (P : Int → Prop) (hx : IsL K L p xs) (hv : IntsV xs ns) (hw : wipe σ vw = σw)
    (hs : ∀ (i : Nat) (x : Int) (ms : List Int) (Dl : Addr), ns[i]? = some x → ms.length = i → (∀ m ∈ ms, P m) → gg (.int x) σw ([(Dl, .lst (ms.map V.int))] :: L) (LcT tt te Dl (ms.map V.int) (IntsX P (i + 1) L) σw vw))
    (hd : ∀ (Dl : Addr) (ms : List Int), ms.length = ns.length → (∀ m ∈ ms, P m) → Wk (Q (.ref Dl)) ([(Dl, .lst (ms.map V.int))] :: L)) : ∀ Dl, Dl ∉ keys L → LcR (wkL K p xs) gg tt te vw σ Dl L Q := fun Dl _ => by
  have hv := hv.eq
  subst hv
  refine c_list (fun i acc L' => IntsX P i L acc L') hw (Wk.go ⟨[], rfl, rfl, by simp, rfl⟩) (fun i acc L' h => ?_) ?_ ?_
  · obtain ⟨_, _, _, _, rfl⟩ := h; exact IsL.tl hx
  · rintro i acc x L' hi ⟨ms, rfl, h1, h2, rfl⟩
    rw [List.getElem?_map] at hi
    obtain ⟨y, hy, rfl⟩ := Option.map_eq_some_iff.mp hi
    exact hs i y ms Dl hy h1 h2
  · rintro acc L' ⟨ms, rfl, h1, h2, rfl⟩
    rw [List.length_map] at h1
    exact hd Dl ms h1 h2
theorem a_intXR (P : Int → Prop) (hw : wipe σ vw = σw)
    (hs : ∀ (i : Nat) (ms : List Int) (Dl : Addr), i < n → ms.length = i → (∀ m ∈ ms, P m) → gg (.int (lo + (i : Int))) σw ([(Dl, .lst (ms.map V.int))] :: L) (LcT tt te Dl (ms.map V.int) (IntsX P (i + 1) L) σw vw))
    (hd : ∀ (Dl : Addr) (ms : List Int), ms.length = n → (∀ m ∈ ms, P m) → Wk (Q (.ref Dl)) ([(Dl, .lst (ms.map V.int))] :: L)) : ∀ Dl, Dl ∉ keys L → LcR (wkR lo n) gg tt te vw σ Dl L Q := fun Dl _ => by
  refine c_range (fun i acc L' => IntsX P i L acc L') hw (Wk.go ⟨[], rfl, rfl, by simp, rfl⟩) ?_ ?_
  · rintro i acc L' hi ⟨ms, rfl, h1, h2, rfl⟩
    exact hs i ms Dl hi h1 h2
  · rintro acc L' ⟨ms, rfl, h1, h2, rfl⟩
    exact hd Dl ms h1 h2
end
end VM

end

section
namespace VM
open PySem PySem.Spec L2
open PyProof.Rows hiding St

/-! ### list(range(a, b)) -/
section
variable {X : Cx}
def gRange2 : LRC := fun xs L Q => ∃ i j, xs = [.int i, .int j] ∧ ∀ p, p ∉ keys L → Q (.ref p) ([(p, .rng i j)] :: L)
theorem lk_range2 : CallL X (.type "range") gRange2 := CallR.imp cr_range2 fun xs H Q ⟨L, QL, hL, ⟨i, j, e, h2⟩, k⟩ => ⟨i, j, e, fun l hl => k _ _ _ (h2 l (hL.fresh hl)) (hL.new hl)⟩
theorem cr_listR (hc : X.calm = true) : CallR X (.type "list") (fun vs H Q => ∃ (a : Addr) (lo : Int) (n : Nat), vs = [.ref a] ∧ H a = some (.rng lo (lo + n)) ∧ (-1000 ≤ lo ∧ lo ≤ 1000 ∧ n ≤ 1000) ∧ ∀ p, H p = none → Q (.ref p) (upd H p (.lst ((rngL lo n).map V.int)))) := by
  intro pins s σ H vs us Q I r h
  obtain ⟨a, lo, n, rfl, ha, hb, q⟩ := h
  obtain rfl := Vals.ref1 r
  obtain ⟨t1, t2, t3, ho⟩ := I.hok a _ ha
  have hsz : Builtin.Range.rangeSize lo (lo + n) 1 = (n : Int) := by
    unfold Builtin.Range.rangeSize
    simp only [show (1 : Int) > 0 by decide, if_true, Int.ediv_one]
    split <;> omega
  refine call_list_range (n := n) (I.ok.hd hc) ho ?_ hsz (by omega) fun h' tk acc' c' kp e it => ?_
  · have hs2 : Builtin.Range.rangeSize lo (lo + n) 1 = (n : Int) := hsz
    unfold Builtin.Range.small
    simp only [hs2]
    unfold Builtin.Range.rangeFitsLong
    simp
    omega
  · refine ⟨.ref s.heap.objs.size, upd H s.heap.objs.size (.lst ((rngL lo n).map V.int)), I.laid (t' := tk) kp (Nat.le_refl _) (show ObjOk X.prog X.w _ h' _ (.lst ((rngL lo n).map V.int)) from ⟨?_, acc'.toList, c', ?_, ?_⟩), rfl, q _ (I.hok.fresh (Nat.le_refl _))⟩
    · rw [List.length_map, rngL, List.length_map, List.length_range]
      unfold sizeLine
      omega
    · refine vals_of_at ?_ fun j x u hx hu => ?_
      · rw [List.length_map, rngL, List.length_map, List.length_range, Array.length_toList, it.1]
      · rw [Array.getElem?_toList] at hu
        obtain ⟨t, rfl⟩ := it.2 j u hu
        rw [List.getElem?_map, rngL, List.getElem?_map] at hx
        by_cases hj : j < n
        · rw [List.getElem?_range hj] at hx
          cases hx
          exact ⟨t, by rw [Int.mul_one]⟩
        · rw [List.getElem?_eq_none (by rw [List.length_range]; omega)] at hx
          cases hx
    · rw [Array.toArray_toList]
      exact e
def gListR : LRC := fun xs L Q => ∃ (a : Addr) (lo : Int) (n : Nat), xs = [.ref a] ∧ At L a (.rng lo (lo + n)) ∧ (-1000 ≤ lo ∧ lo ≤ 1000 ∧ n ≤ 1000) ∧ ∀ p, p ∉ keys L → Q (.ref p) ([(p, .lst ((rngL lo n).map V.int))] :: L)
theorem lk_listR (hc : X.calm = true := by rfl) : CallL X (.type "list") gListR := CallR.imp (cr_listR hc) fun xs H Q ⟨L, QL, hL, ⟨a, lo, n, e, h1, h2, h3⟩, k⟩ => ⟨a, lo, n, e, h1 H hL, h2, fun l hl => k _ _ _ (h3 l (hL.fresh hl)) (hL.new hl)⟩
variable {L : Lg} {Q : LVK} {a : Addr} {lo hi i j : Int}
theorem s_range2 (k : ∀ p, Q (.ref p) ([(p, .rng i j)] :: L)) : gRange2 [.int i, .int j] L Q := ⟨i, j, rfl, fun p _ => k p⟩
theorem s_listR (h : At L a (.rng lo hi)) (hb : -1000 ≤ lo ∧ lo ≤ hi ∧ hi ≤ 1000 ∧ hi - lo ≤ 1000) (k : ∀ p, Q (.ref p) ([(p, .lst ((rngL lo (hi - lo).toNat).map V.int))] :: L)) : gListR [.ref a] L Q := ⟨a, lo, (hi - lo).toNat, rfl, by
  have e : lo + ((hi - lo).toNat : Int) = hi := by omega
  rw [e]; exact h, by omega, fun p _ => k p⟩
end
/-! ### loops over enumerate -/
section
variable {K : PySem.W.Frag} {σ : St} {L : Lg} {a : Addr} {xs : List V} {gg : LTG} {tb : LTS} {n0 : St → Lg → Prop} {r0 : LVK} {b0 c0 : St → Lg → Prop}
theorem f_enum (Pv : Nat → St → Lg → Prop) (h0 : Wk (Pv 0 σ) L) (hG : ∀ i σ L, Pv i σ L → IsL K L a xs) (hs : ∀ (i : Nat) v p σ L, xs[i]? = some v → Pv i σ L → gg (.ref p) σ ([(p, .tup [.int (i : Int), v])] :: L) fun σ2 L2 => tb ⟨Pv (i + 1), r0, n0, Pv (i + 1)⟩ σ2 L2) (hd : ∀ σ L, Pv xs.length σ L → n0 σ L) : ForR (wkE K a xs) gg tb ⟨n0, r0, b0, c0⟩ σ L :=
  ⟨Pv, h0, fun i σ L _ h => hG i σ L h, fun i x σ L L' hi p y => by
    obtain ⟨q, v, hq, rfl, rfl, hx⟩ := y
    exact hs i v q σ _ hx p, hd⟩
end
/-! ### a filter over enumerate, of which only a law of each item is told -/
section
variable {K : PySem.W.Frag} {σ σw : St} {L L4 : Lg} {a Dl : Addr} {xs : List V} {gg : LTG} {tt : LTT} {te : LTE} {vw : List Nat} {Q : LVK} {ns fs : List Int} {i : Nat} {x : Int} {P : Int → Prop}
def FltX (P : Int → Prop) (i : Nat) (L : Lg) : List V → Lg → Prop := fun acc L' => ∃ fs : List Int, acc = fs.map V.int ∧ fs.length ≤ i ∧ (∀ y ∈ fs, P y) ∧ L' = L
theorem s_lcyFE (hx : P x) (h1 : fs.length ≤ i) (h2 : ∀ y ∈ fs, P y) (hz : i < 1000000) (l : Lic L4 ([(Dl, .lst (fs.map V.int))] :: L)) : LcY Dl (fs.map V.int) (FltX P (i + 1) L) (.int x) L4 := s_lcy (by rw [List.length_map]; omega) l ⟨fs ++ [x], by simp, by rw [List.length_append]; simp; omega, fun m h' => by
  rcases List.mem_append.mp h' with h' | h'
  · exact h2 m h'
  · rw [List.mem_singleton.mp h']; exact hx, rfl⟩
theorem s_lcnFE (h1 : fs.length ≤ i) (h2 : ∀ y ∈ fs, P y) (l : Lic L4 ([(Dl, .lst (fs.map V.int))] :: L)) : LcN Dl (fs.map V.int) (FltX P (i + 1) L) L4 := s_lcn l ⟨fs, rfl, by omega, h2, rfl⟩
theorem a_filtE (P : Int → Prop) (hx : IsL K L a xs) (hv : IntsV xs ns) (hw : wipe σ vw = σw) (hp : ∀ y ∈ ns, P y)
    (hs : ∀ (i : Nat) (x : Int) (fs : List Int) (Dl p : Addr), ns[i]? = some x → P x → fs.length ≤ i → (∀ y ∈ fs, P y) → gg (.ref p) σw ([(p, .tup [.int (i : Int), .int x])] :: [(Dl, .lst (fs.map V.int))] :: L) (LcT tt te Dl (fs.map V.int) (FltX P (i + 1) L) σw vw))
    (hd : ∀ (Dl : Addr) (fs : List Int), fs.length ≤ ns.length → (∀ y ∈ fs, P y) → Wk (Q (.ref Dl)) ([(Dl, .lst (fs.map V.int))] :: L)) : ∀ Dl, Dl ∉ keys L → LcR (wkE K a xs) gg tt te vw σ Dl L Q := fun Dl _ => by
  have hv := hv.eq
  subst hv
  refine c_enum (fun i acc L' => FltX P i L acc L') hw (Wk.go ⟨[], rfl, Nat.zero_le _, by simp, rfl⟩) (fun i acc L' h => ?_) ?_ ?_
  · obtain ⟨_, _, _, _, rfl⟩ := h; exact IsL.tl hx
  · rintro i acc v p L' hi ⟨fs, rfl, h1, h2, rfl⟩
    rw [List.getElem?_map] at hi
    obtain ⟨y, hy, rfl⟩ := Option.map_eq_some_iff.mp hi
    exact hs i y fs Dl p hy (hp y (List.mem_of_getElem? hy)) h1 h2
  · rintro acc L' ⟨fs, rfl, h1, h2, rfl⟩
    rw [List.length_map] at h1
    exact hd Dl fs h1 h2
end
/-! ### d.setdefault(k, x) -/
section
variable {X : Cx} {o e f : Expr} {apos cpos pos : Pos} {ta tb tc : LTE} {σ : St} {L : Lg} {Q : LVK}
def SdZ (a : Addr) (k : Int) (Q : LVK) : LVK := fun z L3 => ∃ kvs L', kvs.length < sizeLine ∧ At L3 a (.dK kvs) ∧ (∀ v, valV kvs (.inl k) = some v → Q v L3) ∧ (valV kvs (.inl k) = none → Wr a (.dK kvs) (.dK (putK kvs (.inl k) z)) L3 L' ∧ Q z L')
def SdY (a : Addr) (tc : LTE) (σ : St) (Q : LVK) : LVK := fun y L2 => ∃ k, y = .int k ∧ tc σ L2 (SdZ a k Q)
def SdK (tb tc : LTE) (σ : St) (Q : LVK) : LVK := fun x L1 => ∃ a kvs, x = .ref a ∧ At L1 a (.dK kvs) ∧ tb σ L1 (SdY a tc σ Q)
def lDSetd (ta tb tc : LTE) : LTE := fun σ L Q => ta σ L (SdK tb tc σ Q)
theorem ldsetd (ho : LE X o ta) (he : LE X e tb) (hf : LE X f tc) (m : M2 X o "setdefault" apos e f cpos := by exact ⟨rfl, rfl, rfl, rfl⟩) : LE X (.Call (.Attribute o "setdefault" apos) [e, f] [] cpos) (lDSetd ta tb tc) := by
  refine PE.imp (pe_dsetd ho he hf m) fun σ H Q h => ?_
  obtain ⟨L, QL, hL, h, k⟩ := h
  refine ⟨L, _, hL, h, fun x L1 H1 ⟨a, kvs, e1, h1, h2⟩ hL1 => ⟨a, e1, .inl ⟨kvs, .inl (h1 H1 hL1)⟩, L1, _, hL1, h2, fun y L2 H2 ⟨i, e2, h3⟩ hL2 => ⟨L2, _, hL2, h3, fun z L3 H3 ⟨kv3, L', hz, h4, q1, q2⟩ hL3 => ⟨kv3, .inl i, h4 H3 hL3, e2, hz, fun v hv => k _ _ _ (q1 v hv) hL3, fun hn => ?_⟩⟩⟩⟩
  obtain ⟨w, q⟩ := q2 hn
  exact k _ _ _ q (w.led hL3)
variable {a : Addr} {kvs : List (Key × V)} {i : Int} {z : V} {L' : Lg}
instance j_dsetd : S1 (lDSetd ta tb tc σ L Q) (ta σ L (SdK tb tc σ Q)) := ⟨id⟩
theorem s_sdk (h : At L a (.dK kvs)) (k : tb σ L (SdY a tc σ Q)) : SdK tb tc σ Q (.ref a) L := ⟨a, kvs, rfl, h, k⟩
instance j_sdy : S1 (SdY a tc σ Q (.int i) L) (tc σ L (SdZ a i Q)) := ⟨fun h => ⟨i, rfl, h⟩⟩
theorem s_sdz (hz : kvs.length < 1000000) (h : At L a (.dK kvs)) (w : Wr a (.dK kvs) (.dK (putK kvs (.inl i) z)) L L') (k1 : ∀ v, valV kvs (.inl i) = some v → Q v L) (k2 : valV kvs (.inl i) = none → Q z L') : SdZ a i Q z L := ⟨kvs, L', Nat.lt_of_lt_of_le hz (by decide), h, k1, fun e => ⟨w, k2 e⟩⟩
end
end VM

end
namespace VM
open PySem PySem.Spec L2
open PyProof.Rows hiding St

local macro_rules | `(tactic| walk_at "mem") => `(tactic| first | with_reducible exact List.mem_cons_self | assumption | ((with_reducible refine List.mem_cons_of_mem _ ?_); walk_at "mem"))
local macro_rules | `(tactic| walk_at "at") => `(tactic| first | with_reducible exact At.hd1 | assumption | ((with_reducible refine At.tl ?_); walk_at "at"))
local macro_rules | `(tactic| walk_at "atm") => `(tactic| first | (refine At.one ?_; walk_at "mem") | (refine' At.mem ?h1 ?h2; (case h2 => assumption); (case h1 => walk_at "mem")) | ((with_reducible refine' row_at ?h1 ?h2 ?h3 ?h4); (case h1 => walk_at "mem"); (case h2 => walk_at "ln"); (case h3 => omega); (case h4 => walk_at "lt")) | ((with_reducible refine' vol_top ?h1); (case h1 => walk_at "mem")) | ((with_reducible refine' cell_at ?h1 ?h2 ?h3 ?h4); (case h1 => walk_at "mem"); (case h2 => walk_at "ln"); (case h3 => omega); (case h4 => omega)) | ((with_reducible refine' tup_at ?h1 ?h2 ?h3 ?h4 ?h5); (case h1 => walk_at "mem"); (case h2 => walk_at "ln"); (case h3 => walk_at "ln"); (case h4 => omega); (case h5 => omega)) | ((with_reducible refine' tup_top ?h1); (case h1 => walk_at "mem")))
local macro_rules | `(tactic| walk_at "ln") => `(tactic| first | assumption | omega | (simp only [List.length_map, List.length_set, List.length_range, List.length_append, List.length_cons, List.length_nil, List.length_replicate, putsM_len, putAt_len]; omega))
local macro_rules | `(tactic| walk_at "isl") => `(tactic| first | (refine' IsL.at_ ?h1; (case h1 => first | walk_at "at" | walk_at "atm")) | assumption | (refine' IsL.scr ?h1 ?h2; (case h1 => assumption); (case h2 => walk_at "mem")) | (apply IsL.tl; first | assumption | (apply IsL.tl; first | assumption | (apply IsL.tl; assumption))))
local macro_rules | `(tactic| walk_at "ist") => `(tactic| first | (refine' IsT.at_ ?h1; (case h1 => first | walk_at "at" | walk_at "atm")) | assumption)
local macro_rules | `(tactic| walk_at "wr") => `(tactic| first | with_reducible exact Wr.hd1 | (apply Wr.tl; walk_at "wr"))
local macro_rules | `(tactic| walk_at "slot") => `(tactic| first | exact SetAt.hd | (apply SetAt.tl; walk_at "slot"))
local macro_rules | `(tactic| walk_at "sub") => `(tactic| first | exact List.Sublist.refl _ | exact List.nil_sublist _ | (refine List.Sublist.cons_cons _ ?_; walk_at "sub") | (refine List.Sublist.cons _ ?_; walk_at "sub"))
local macro_rules | `(tactic| walk_at "pull") => `(tactic| first | with_reducible exact Pull.hd | ((with_reducible apply Pull.tl); walk_at "pull"))
local macro_rules | `(tactic| walk_at "lics") => `(tactic| first | with_reducible exact LicS.refl | ((with_reducible refine' LicS.pull ?h1 ?_); (case h1 => walk_at "pull"); walk_at "lics") | ((with_reducible refine LicS.skip ?_); walk_at "lics"))
local macro_rules | `(tactic| walk_at "lic") => `(tactic| first | exact Lic.refl | (refine Lic.sublist ?_; walk_at "sub") | (refine LicS.lic ?_; walk_at "lics"))
local macro_rules | `(tactic| walk_at "nb") => `(tactic| first | with_reducible exact nb1 | with_reducible exact nb1t | with_reducible exact nb2 | with_reducible exact nb3w | with_reducible exact nb2t | with_reducible exact nb_i | with_reducible exact nb_n | ((with_reducible refine nb_list ?_); walk_at "nba") | ((with_reducible refine nb_tup ?_); walk_at "nba"))
local macro_rules | `(tactic| walk_at "nba") => `(tactic| first | with_reducible exact nba_nil | ((with_reducible refine' nba_cons ?h1 ?_); (case h1 => walk_at "nb"); walk_at "nba"))
local macro_rules | `(tactic| walk_at "di") => `(tactic| first | with_reducible exact dI_iff | with_reducible exact dT_iff | with_reducible exact dR_iff | with_reducible exact dW_iff | with_reducible exact dTs_nil | with_reducible exact dTs_nil' | with_reducible exact dR_nil | with_reducible exact dW_nil | with_reducible exact dR_nil' | with_reducible exact dW_nil' | with_reducible exact dTs_iff | with_reducible exact di_iff | with_reducible exact dln_iff | ((with_reducible refine' dlc_iff ?h1 ?h2); (case h1 => walk_at "di"); (case h2 => walk_at "di")) | ((with_reducible refine' dtc_iff ?h1 ?h2); (case h1 => walk_at "di"); (case h2 => walk_at "di")))
local macro_rules | `(tactic| walk_at "dp") => `(tactic| first | with_reducible exact DpL.int | with_reducible exact DpL.bl | with_reducible exact DpL.non | ((with_reducible refine' DpL.vol ?h1 ?h2); (case h1 => walk_at "mem"); (case h2 => walk_at "ln")) | ((with_reducible refine' DpL.pairs ?h1 ?h2 ?h3 ?h4); (case h1 => walk_at "mem"); (case h2 => walk_at "mem"); (case h3 => walk_at "ln"); (case h4 => walk_at "ln")) | ((with_reducible refine' DpL.ldT ?h1 ?h2); (case h1 => assumption); (case h2 => walk_at "mem")) | ((with_reducible refine' DpL.ldW ?h1 ?h2); (case h1 => assumption); (case h2 => walk_at "mem")) | ((with_reducible refine' DpL.tel ?h1 ?h2); (case h1 => assumption); (case h2 => walk_at "mem")) | ((with_reducible refine' DpL.iv ?h1 ?h2); (case h1 => walk_at "isl"); (case h2 => walk_at "iv")) | ((with_reducible refine' DpL.tv ?h1 ?h2); (case h1 => walk_at "ist"); (case h2 => walk_at "iv")) | ((with_reducible refine' DpL.lst ?h1 ?h2); (case h1 => walk_at "isl"); (case h2 => walk_at "dpa")) | ((with_reducible refine' DpL.tup ?h1 ?h2); (case h1 => walk_at "ist"); (case h2 => walk_at "dpa")))
local macro_rules | `(tactic| walk_at "dpa") => `(tactic| first | with_reducible exact DpLA.nil | ((with_reducible refine' DpLA.cons ?h1 ?h2); (case h1 => walk_at "dp"); (case h2 => walk_at "dpa")))
local macro_rules | `(tactic| walk_at "ar") => `(tactic| first | omega | decide | assumption | (rw [rowAt_len (by assumption) (by omega) (by omega)]; omega) | (rw [rowAt_len (m := 8) (by walk_at "a8") (by omega) (by walk_at "lt")]; omega) | (constructor <;> first | omega | decide) | (simp only [List.length_map, List.length_cons, List.length_nil, List.length_append, List.length_set] at *; omega))
local macro_rules | `(tactic| walk_at "sz") => `(tactic| first | decide | (simp only [List.length_map, List.length_cons, List.length_nil, List.length_append]; decide))
local macro_rules | `(tactic| walk_at "mul") => `(tactic| first | (refine Or.inl (Or.inl ⟨?_, ?_⟩) <;> omega) | (refine Or.inl (Or.inr ⟨?_, ?_⟩) <;> omega))
local macro_rules | `(tactic| walk_at "iv") => `(tactic| first | with_reducible exact IntsV.map | with_reducible exact IntsV.rep | assumption | with_reducible exact IntsV.nil | ((with_reducible apply IntsV.cons); walk_at "iv") | ((with_reducible apply IntsV.app) <;> walk_at "iv"))
local macro_rules | `(tactic| walk_at "fz") => `(tactic| first | exact fzw fz0 | exact fzw (fz fz0) | exact fzw (fz (fz fz0)) | exact fzw (fz (fz (fz fz0))) | exact fzw (fz (fz (fz (fz fz0)))) | exact fzw (fz (fz (fz (fz (fz fz0))))) | exact fzw (fz (fz (fz (fz (fz (fz fz0)))))))
local macro_rules | `(tactic| walk_at "fld") => `(tactic| fail)
local macro_rules | `(tactic| walk_at "c") => `(tactic| fail)
local macro_rules | `(tactic| walk_at "ev") => `(tactic| first
  | ((with_reducible refine' s_var ?h1 ?_); (case h1 => exact rfl)) | with_reducible refine s_c ?_ | with_reducible refine s_op ?_ | with_reducible refine s_cons ?_ | with_reducible refine s_nil ?_ | with_reducible refine s_test ?_ | with_reducible refine s_blk ?_ | with_reducible refine s_un ?_ | with_reducible refine s_cb ?_ | with_reducible refine s_callP ?_ | with_reducible refine s_fld ?_ | with_reducible refine s_methP ?_
  | with_reducible refine s_dict0 (fun _ => ?_) | ((with_reducible refine' s_dgk ?h1 ?_); (case h1 => first | walk_at "at" | walk_at "atm")) | ((with_reducible refine' s_dgz ?h1 ?_); (case h1 => first | walk_at "at" | walk_at "atm"))
  | with_reducible refine s_tup ?_ | with_reducible refine s_lst ?_ | ((with_reducible refine' s_new ?h1 (fun _ => ?_)); (case h1 => walk_at "sz")) | with_reducible refine s_sl ?_ | with_reducible refine s_nopart ?_ | with_reducible refine s_part ?_ | with_reducible refine s_intk ?_ | with_reducible refine s_not ?_ | with_reducible refine s_and ?_ | with_reducible refine s_or ?_ | with_reducible refine s_andV ?_ | with_reducible refine s_orV ?_ | with_reducible refine s_notV ?_ | with_reducible refine s_tru ?_ | with_reducible refine s_ifE ?_ | with_reducible refine s_makeP ?_ | with_reducible refine s_makeK (fun _ _ => ?_)
  | with_reducible refine s_bm ?_ | with_reducible refine s_bm0 ?_
  | ((with_reducible refine' s_copy ?h1 ?h2 ?h3 ?h4 ?h5 (fun _ _ _ => ?_)); (case h1 => exact rfl); (case h2 => walk_at "mem"); (case h3 => walk_at "ln"); (case h4 => first | omega | walk_at "le"); (case h5 => simp))
  | ((with_reducible refine' s_copyLW ?h1 ?h2 ?h3 ?h4 ?h5 ?h6 ?h7 ?h8 (fun _ _ _ => ?_)); (case h1 => exact rfl); (case h3 => first | assumption | exact LdW.tel (by assumption)); (case h2 => walk_at "mem"); (case h4 => omega); (case h5 => simp); (case h6 => simp); (case h7 => decide); (case h8 => exact rfl))
  | ((with_reducible refine' s_copyW ?h1 ?h2 ?h3 ?h4 ?h5 ?h6 ?h7 ?h8 (fun _ _ _ _ _ => ?_)); (case h1 => exact rfl); (case h3 => assumption); (case h2 => walk_at "mem"); (case h4 => omega); (case h5 => simp); (case h6 => simp); (case h7 => decide); (case h8 => exact rfl))
  | with_reducible refine s_lc ?_)
local macro_rules | `(tactic| walk_at "op") => `(tactic| first
  | ((with_reducible refine' s_ix_vol ?h1 ?h2 ?h3 ?_); (case h1 => walk_at "mem"); (case h2 => omega); (case h3 => walk_at "lt"))
  | with_reducible refine s_add_i ?_ | with_reducible refine s_sub ?_ | with_reducible refine s_lt ?_ | with_reducible refine s_eq_i ?_ | with_reducible refine s_ne_i ?_ | with_reducible refine s_gt ?_ | with_reducible refine s_le ?_ | with_reducible refine s_ge ?_ | with_reducible refine s_neg ?_
  | ((with_reducible refine' s_mod ?h1 ?_); (case h1 => walk_at "ar")) | ((with_reducible refine' s_div ?h1 ?_); (case h1 => (refine ⟨?_, ?_⟩; walk_at "ar"; first | decide | walk_at "ar"))) | ((with_reducible refine' s_mul ?h1 ?_); (case h1 => walk_at "mul")) | ((with_reducible refine' s_pow ?h1 ?h2 ?_); (case h1 => (refine ⟨?_, ?_, ?_⟩ <;> decide)); (case h2 => simp only [Int.reduceToNat, Int.reducePow]; try rfl))
  | with_reducible refine s_band ?_ | with_reducible refine s_bor ?_ | with_reducible refine s_bxor ?_ | ((with_reducible refine' s_shl ?h1 ?_); (case h1 => walk_at "ar")) | ((with_reducible refine' s_shr ?h1 ?_); (case h1 => walk_at "ar"))
  | with_reducible refine s_eq_b ?_ | with_reducible refine s_ne_b ?_ | with_reducible refine s_eq_s ?_ | with_reducible refine s_ne_s ?_ | ((with_reducible refine' s_is ?h1 ?_); (case h1 => exact rfl)) | ((with_reducible refine' s_isN ?h1 ?_); (case h1 => exact rfl))
  | ((with_reducible refine' s_ix_l ?h1 ?h2 ?_); (case h1 => walk_at "isl"); (case h2 => first | assumption | exact rfl)) | ((with_reducible refine' s_ix_t ?h1 ?h2 ?_); (case h1 => walk_at "ist"); (case h2 => exact rfl)) | ((with_reducible refine' s_ix_ivE ?h1 ?h2 ?h3 ?h4 ?h5 ?_); (case h1 => walk_at "isl"); (case h2 => walk_at "iv"); (case h3 => walk_at "ar"); (case h4 => walk_at "ar"); (case h5 => first | (simp only [Int.reduceToNat]; exact rfl) | exact rfl)) | ((with_reducible refine' s_ix_tvE ?h1 ?h2 ?h3 ?h4 ?h5 ?_); (case h1 => walk_at "ist"); (case h2 => walk_at "iv"); (case h3 => walk_at "ar"); (case h4 => walk_at "ar"); (case h5 => first | (simp only [Int.reduceToNat]; exact rfl) | exact rfl))
  | ((with_reducible refine' s_eq_vol ?h1 ?h2 ?h3 ?h4 ?_); (case h1 => walk_at "mem"); (case h2 => walk_at "mem"); (case h3 => walk_at "ln"); (case h4 => walk_at "ln")) | ((with_reducible refine' s_ne_vol ?h1 ?h2 ?h3 ?h4 ?_); (case h1 => walk_at "mem"); (case h2 => walk_at "mem"); (case h3 => walk_at "ln"); (case h4 => walk_at "ln"))
  | ((with_reducible refine' s_eq_iv ?h1 ?h2 ?h3 ?h4 ?_); (case h1 => walk_at "isl"); (case h2 => walk_at "isl"); (case h3 => walk_at "iv"); (case h4 => walk_at "iv")) | ((with_reducible refine' s_ne_iv ?h1 ?h2 ?h3 ?h4 ?_); (case h1 => walk_at "isl"); (case h2 => walk_at "isl"); (case h3 => walk_at "iv"); (case h4 => walk_at "iv"))
  | ((with_reducible refine' s_eq_tv ?h1 ?h2 ?h3 ?h4 ?_); (case h1 => walk_at "ist"); (case h2 => walk_at "ist"); (case h3 => walk_at "iv"); (case h4 => walk_at "iv")) | ((with_reducible refine' s_ne_tv ?h1 ?h2 ?h3 ?h4 ?_); (case h1 => walk_at "ist"); (case h2 => walk_at "ist"); (case h3 => walk_at "iv"); (case h4 => walk_at "iv"))
  | ((with_reducible refine' s_eq_dp (n := 8) (m := 8) ?h1 ?h2 ?h3 ?h4 ?h5 ?_); (case h1 => walk_at "dp"); (case h2 => walk_at "dp"); (case h3 => walk_at "nb"); (case h4 => walk_at "nb"); (case h5 => walk_at "di")) | ((with_reducible refine' s_ne_dp (n := 8) (m := 8) ?h1 ?h2 ?h3 ?h4 ?h5 ?_); (case h1 => walk_at "dp"); (case h2 => walk_at "dp"); (case h3 => walk_at "nb"); (case h4 => walk_at "nb"); (case h5 => walk_at "di"))
  | ((with_reducible refine' s_eq_bs ?h1 ?h2 ?h3 ?h4 ?_); (case h1 => walk_at "isl"); (case h2 => walk_at "isl"); (case h3 => walk_at "bv"); (case h4 => walk_at "bv")) | ((with_reducible refine' s_ne_bs ?h1 ?h2 ?h3 ?h4 ?_); (case h1 => walk_at "isl"); (case h2 => walk_at "isl"); (case h3 => walk_at "bv"); (case h4 => walk_at "bv"))
  | ((with_reducible refine' s_sl_i ?h1 (fun _ => ?_)); (case h1 => walk_at "isl")) | ((with_reducible refine' s_sl_r ?h1 (fun _ => ?_)); (case h1 => walk_at "isl")) | ((with_reducible refine' s_sl_l ?h1 (fun _ => ?_)); (case h1 => walk_at "isl"))
  | ((with_reducible refine' s_len_ldT ?h1 ?h2 ?_); (case h1 => assumption); (case h2 => walk_at "mem")) | ((with_reducible refine' s_len_ldW ?h1 ?h2 ?_); (case h1 => assumption); (case h2 => walk_at "mem")) | ((with_reducible refine' s_len_refs ?h1 ?_); (case h1 => walk_at "isl")) | ((with_reducible refine' s_len_i ?h1 ?_); (case h1 => walk_at "isl")) | ((with_reducible refine' s_len_ti ?h1 ?_); (case h1 => walk_at "ist")) | ((with_reducible refine' s_len_lN ?h1 ?h2 ?_); (case h1 => walk_at "isl"); (case h2 => (simp only [List.length_cons, List.length_nil, Nat.reduceAdd]; exact rfl))) | ((with_reducible refine' s_len_tN ?h1 ?h2 ?_); (case h1 => walk_at "ist"); (case h2 => (simp only [List.length_cons, List.length_nil, Nat.reduceAdd]; exact rfl))) | ((with_reducible refine' s_len_l ?h1 ?_); (case h1 => walk_at "isl")) | ((with_reducible refine' s_len_t ?h1 ?_); (case h1 => walk_at "ist")) | ((with_reducible refine' s_list_l ?h1 (fun _ => ?_)); (case h1 => walk_at "isl")) | ((with_reducible refine' s_list_t ?h1 (fun _ => ?_)); (case h1 => walk_at "ist")) | ((with_reducible refine' s_tuple_l ?h1 (fun _ => ?_)); (case h1 => walk_at "isl")) | ((with_reducible refine' s_tuple_t ?h1 ?_); (case h1 => walk_at "ist"))
  | ((with_reducible refine' s_divmod ?h1 (fun _ => ?_)); (case h1 => constructor <;> decide)) | with_reducible refine s_abs ?_ | with_reducible refine s_max2 ?_ | with_reducible refine s_min2 ?_ | with_reducible refine s_int_i ?_ | with_reducible refine s_int_b ?_ | ((with_reducible refine' s_sum ?h1 ?_); (case h1 => walk_at "isl"))
  | ((with_reducible refine' s_isi_ty (b := true) ty_i ?h2 ?_); (case h2 => (refine kit_ty ?_; decide +kernel))) | ((with_reducible refine' s_isi_ty (b := false) ty_i ?h2 ?_); (case h2 => (refine kit_ty ?_; decide +kernel))) | ((with_reducible refine' s_isi_ty (b := true) ty_b ?h2 ?_); (case h2 => (refine kit_ty ?_; decide +kernel))) | ((with_reducible refine' s_isi_ty (b := false) ty_b ?h2 ?_); (case h2 => (refine kit_ty ?_; decide +kernel))) | ((with_reducible refine' s_isi_ty (b := true) ty_n ?h2 ?_); (case h2 => (refine kit_ty ?_; decide +kernel))) | ((with_reducible refine' s_isi_ty (b := false) ty_n ?h2 ?_); (case h2 => (refine kit_ty ?_; decide +kernel))) | ((with_reducible refine' s_isi_ty (b := true) (ty_t ?h1) ?h2 ?_); (case h1 => first | walk_at "at" | walk_at "atm"); (case h2 => (refine kit_ty ?_; decide +kernel))) | ((with_reducible refine' s_isi_ty (b := false) (ty_t ?h1) ?h2 ?_); (case h1 => first | walk_at "at" | walk_at "atm"); (case h2 => (refine kit_ty ?_; decide +kernel))) | ((with_reducible refine' s_isi_ty (b := true) (ty_l ?h1) ?h2 ?_); (case h1 => first | walk_at "at" | walk_at "atm"); (case h2 => (refine kit_ty ?_; decide +kernel))) | ((with_reducible refine' s_isi_ty (b := false) (ty_l ?h1) ?h2 ?_); (case h1 => first | walk_at "at" | walk_at "atm"); (case h2 => (refine kit_ty ?_; decide +kernel)))
  | ((with_reducible refine' s_isi_ty (b := true) (ty_ldT ?h1 ?h3) ?h2 ?_); (case h1 => assumption); (case h3 => walk_at "mem"); (case h2 => (refine kit_ty ?_; decide +kernel))) | ((with_reducible refine' s_isi_ty (b := true) (ty_ldW ?h1 ?h3) ?h2 ?_); (case h1 => assumption); (case h3 => walk_at "mem"); (case h2 => (refine kit_ty ?_; decide +kernel)))
  | ((with_reducible refine' s_ix_ldW ?h1 ?h2 ?h3 ?h4 (fun _ _ _ _ => ?_)); (case h1 => assumption); (case h2 => walk_at "mem"); (case h3 => walk_at "ar"); (case h4 => walk_at "ar")) | ((with_reducible refine' s_ix_ldT ?h1 ?h2 ?h3 ?h4 (fun _ _ => ?_)); (case h1 => assumption); (case h2 => walk_at "mem"); (case h3 => walk_at "ar"); (case h4 => walk_at "ar"))
  | ((with_reducible refine' s_lenset ?h1 ?h2 ?h3 ?_); (case h1 => walk_at "isl"); (case h2 => walk_at "iv"); (case h3 => walk_at "le"))
  | ((with_reducible refine' s_in_i ?h1 ?h2 ?_); (case h1 => walk_at "isl"); (case h2 => walk_at "iv")) | ((with_reducible refine' s_nin_i ?h1 ?h2 ?_); (case h1 => walk_at "isl"); (case h2 => walk_at "iv")) | ((with_reducible refine' s_in_it ?h1 ?h2 ?_); (case h1 => walk_at "ist"); (case h2 => walk_at "iv")) | ((with_reducible refine' s_nin_it ?h1 ?h2 ?_); (case h1 => walk_at "ist"); (case h2 => walk_at "iv"))
  | ((with_reducible refine' s_sorted ?h1 ?h2 (fun _ _ _ _ _ => ?_)); (case h1 => walk_at "isl"); (case h2 => walk_at "iv"))
  | ((with_reducible refine' s_add_iv ?h1 ?h2 ?h3 ?h4 ?h5 (fun _ => ?_)); (case h1 => first | walk_at "at" | walk_at "atm"); (case h2 => first | walk_at "at" | walk_at "atm"); (case h3 => walk_at "iv"); (case h4 => walk_at "iv"); (case h5 => walk_at "le"))
  | ((with_reducible refine' s_add_l2 ?h1 ?h2 ?h3 (fun _ => ?_)); (case h1 => first | walk_at "at" | walk_at "atm"); (case h2 => first | walk_at "at" | walk_at "atm"); (case h3 => walk_at "le"))
  | ((with_reducible refine' s_all ?h1 ?_); (case h1 => walk_at "at"))
  | ((with_reducible refine' s_rep1 ?h1 ?h2 ?h3 (fun _ => ?_)); (case h1 => walk_at "at"); (case h2 => walk_at "ar"); (case h3 => omega))
  | ((with_reducible refine' s_rep ?h1 ?h2 ?h3 ?h4 (fun _ => ?_)); (case h1 => walk_at "at"); (case h2 => walk_at "ar"); (case h3 => walk_at "ar"); (case h4 => walk_at "ar"))
  | with_reducible refine s_tru_b ?_ | with_reducible refine s_tru_i ?_)
local macro_rules | `(tactic| walk_at "st") => `(tactic| first
  | with_reducible refine s_seq ?_ | with_reducible refine s_last ?_ | with_reducible refine s_asg ?_ | ((with_reducible refine' s_name ?h1 ?_); (case h1 => walk_at "slot")) | with_reducible refine s_if ?_ | with_reducible refine s_ret ?_ | with_reducible refine s_drop ?_ | with_reducible refine s_next ?_ | with_reducible refine s_retN ?_ | with_reducible refine s_for ?_
  | with_reducible refine s_hcons ?_ | with_reducible refine s_hnil ?_ | ((with_reducible refine' s_htup ?h1 ?h2 ?_); (case h1 => walk_at "ist"); (case h2 => exact rfl)) | ((with_reducible refine' s_hlst ?h1 ?h2 ?_); (case h1 => walk_at "isl"); (case h2 => first | exact rfl | (simp only [List.length_map]; walk_at "ln"))) | with_reducible refine s_hsub ?_ | with_reducible refine s_setf ?_ | with_reducible refine s_cont ?_ | with_reducible refine s_break ?_
  | ((with_reducible refine s_wk ?_); walk_at "s")
  | with_reducible refine s_rng1 ?_ | ((with_reducible refine' s_rng1v ?h1 ?_); (case h1 => walk_at "ar")) | with_reducible refine s_rng2 ?_ | ((with_reducible refine' s_rng2v ?h1 ?_); (case h1 => walk_at "ar")) | with_reducible refine s_kseq ?_ | ((with_reducible refine' s_kseqT ?h1 ?h2 (fun _ _ _ => ?_)); (case h1 => assumption); (case h2 => walk_at "mem")) | ((with_reducible refine' s_kseqW ?h1 ?h2 (fun _ _ _ => ?_)); (case h1 => assumption); (case h2 => walk_at "mem")) | ((with_reducible refine' s_zipv ?h1 ?h2 ?_); (case h1 => walk_at "isl"); (case h2 => walk_at "isl")) | ((with_reducible refine' s_kseqv ?h1 ?_); (case h1 => walk_at "isl")) | ((with_reducible refine' s_kseqt ?h1 ?_); (case h1 => walk_at "ist")) | with_reducible refine s_ktup ?_ | ((with_reducible refine' s_ktupv ?h1 ?_); (case h1 => walk_at "ist"))
  | ((with_reducible refine' s_lct ?h1 ?_); (case h1 => exact rfl)) | with_reducible refine s_yes ?_ | ((with_reducible refine' s_lcnB ?h1 ?h2); (case h1 => exact rfl); (case h2 => walk_at "lic")) | ((with_reducible refine' s_lcyB ?h1 ?h2 ?h3 ?h4); (case h1 => exact rfl); (case h2 => assumption); (case h3 => walk_at "lic"); (case h4 => exact rfl)) |  ((with_reducible refine s_lcnN ?_); walk_at "lic") | ((with_reducible refine' s_lcyI ?h1 ?h2 ?h3); (case h1 => assumption); (case h2 => walk_at "lic"); (case h3 => exact rfl)) | ((with_reducible refine' s_lcyR ?h1 ?h2 ?h3 ?h4 ?h5 ?h6); (case h1 => walk_at "at"); (case h2 => walk_at "iv"); (case h3 => exact rfl); (case h4 => assumption); (case h5 => omega); (case h6 => walk_at "lics"))
  | ((with_reducible refine' s_set_volR ?h0 ?h1 ?h2 ?h3 ?h4 ?h5 ?_); (case h0 => walk_at "rp"); (case h1 => walk_at "ln"); (case h2 => omega); (case h3 => walk_at "lt"); (case h4 => omega); (case h5 => walk_at "rl"))
  | ((with_reducible refine' s_set_cellR ?h0 ?h1 ?h2 ?h3 ?h4 ?h5 ?_); (case h0 => walk_at "rp"); (case h1 => walk_at "ln"); (case h2 => omega); (case h3 => walk_at "lt"); (case h4 => omega); (case h5 => walk_at "rl"))
  | ((with_reducible refine' s_set_rowR ?h1 ?h2 ?h3 ?h4 ?h5 ?h6 ?_); (case h1 => walk_at "pull"); (case h2 => walk_at "pull"); (case h3 => walk_at "iv"); (case h4 => walk_at "ln"); (case h5 => omega); (case h6 => walk_at "lt"))
  | ((with_reducible refine' s_set_i ?h1 ?h2 ?_); (case h1 => walk_at "wr"); (case h2 => (refine ixN_pos ?_ ?_ <;> walk_at "ar"))) | ((with_reducible refine' s_set_l ?h1 ?h2 ?_); (case h1 => walk_at "wr"); (case h2 => (refine ixN_pos ?_ ?_ <;> walk_at "ar")))
  | ((with_reducible refine' s_appT ?h1 ?h2 ?h3 ?h4 ?h5 (fun _ _ => ?_)); (case h1 => first | assumption | exact LdT.nil); (case h2 => walk_at "pull"); (case h3 => walk_at "pull"); (case h4 => walk_at "iv"); (case h5 => walk_at "ln")) | ((with_reducible refine' s_appP ?h1 ?h2 ?h3 ?h4 ?h5 (fun _ _ => ?_)); (case h1 => assumption); (case h2 => first | exact Pulls.cons .hd (Pulls.cons .hd Pulls.nil) | (refine Pulls.cons ?_ (Pulls.cons ?_ Pulls.nil) <;> walk_at "pull")); (case h3 => walk_at "pull"); (case h4 => walk_at "iv"); (case h5 => walk_at "ln")) | ((with_reducible refine' s_appW ?h1 ?h2 ?h3 ?h4 ?h5 (fun _ _ => ?_)); (case h1 => first | assumption | exact LdW.nil); (case h2 => first | exact Pulls.cons .hd (Pulls.cons .hd Pulls.nil) | (refine Pulls.cons ?_ (Pulls.cons ?_ Pulls.nil) <;> walk_at "pull")); (case h3 => walk_at "pull"); (case h4 => walk_at "iv"); (case h5 => walk_at "ln")) | ((with_reducible refine' s_appR ?h1 ?h2 ?h3 ?h4 ?h5 ?_); (case h1 => walk_at "pull"); (case h2 => walk_at "pull"); (case h3 => walk_at "iv"); (case h4 => walk_at "ln"); (case h5 => walk_at "ln")) | ((with_reducible refine' s_ext_i ?h1 ?h2 ?h3 ?h4 ?h5 ?_); (case h1 => first | walk_at "at" | walk_at "atm"); (case h2 => walk_at "wr"); (case h3 => walk_at "iv"); (case h4 => walk_at "iv"); (case h5 => walk_at "ln")) | ((with_reducible refine' s_append ?h1 ?h2 ?_); (case h1 => walk_at "wr"); (case h2 => walk_at "ar")) | ((with_reducible refine' s_clear ?h1 ?_); (case h1 => walk_at "wr"))
  | with_reducible refine s_never ?_ | walk_at "lc")
local macro_rules | `(tactic| walk_at "lc") => `(tactic| first
  | ((with_reducible refine' a_ints _ ?h1 ?h2 ?h3 ?h4); (case h1 => exact rfl); (case h2 => walk_at "le"); (case h3 => ((intro _ _ _ _ _); walk_at "w"; done)); (case' h4 => intro _))
  | ((with_reducible refine' a_rows _ ?h1 ?h3 ?h4); (case h1 => exact rfl); (case h3 => ((intro _ _ _ _ _); walk_at "w"; done)); (case' h4 => intro _ _ _ _))
  | ((with_reducible refine' a_zipW ?h1 ?h2 ?h3 ?h4 ?h5 ?h6 ?h7 ?h8 ?h9 ?h10); (case h1 => walk_at "pull"); (case h2 => walk_at "isl"); (case h3 => walk_at "iv"); (case h4 => walk_at "ln"); (case h5 => walk_at "le"); (case h6 => simp); (case h7 => simp); (case h8 => decide); (case h9 => exact rfl); (case' h10 => intro _ _ _))
  | ((with_reducible refine' a_fst ?h1 ?h2 ?h3 ?h4 ?h5 ?h6 ?h7 ?h8 ?h9); (case h2 => assumption); (case h3 => assumption); (case h1 => walk_at "mem"); (case h4 => walk_at "le"); (case h5 => simp); (case h6 => simp); (case h7 => decide); (case h8 => exact rfl); (case' h9 => intro _))
  | ((with_reducible refine' a_snd ?h1 ?h2 ?h3 ?h4 ?h5 ?h6 ?h7 ?h8 ?h9); (case h2 => assumption); (case h3 => assumption); (case h1 => walk_at "mem"); (case h4 => walk_at "le"); (case h5 => simp); (case h6 => simp); (case h7 => decide); (case h8 => exact rfl); (case' h9 => intro _ _ _ _))
  | ((with_reducible refine' a_dropD ?h1 ?h2 ?h3 ?h4 ?h5 ?h6); (case h2 => assumption); (case h3 => assumption); (case h1 => walk_at "mem"); (case h4 => exact rfl); (case h5 => ((intro _ _ _ _ _); walk_at "w"; done)); (case' h6 => intro _))
  | ((with_reducible refine' a_dropR ?h0 ?h1 ?h3 ?h4); (case h0 => walk_at "isl"); (case h1 => exact rfl); (case h3 => ((intro _ _ _); walk_at "w"; done)); (case' h4 => intro _))
  | ((with_reducible refine' a_intsL _ ?h0 ?hv ?h1 ?h2 ?h3 ?h4); (case h0 => walk_at "isl"); (case hv => walk_at "iv"); (case h1 => exact rfl); (case h2 => walk_at "le"); (case h3 => ((intro _ _ _ _ _); walk_at "w"; done)); (case' h4 => intro _))
  | ((with_reducible refine' a_intsN _ ?h1 ?h2 ?h3 ?h4); (case h1 => exact rfl); (case h2 => walk_at "le"); (case h3 => ((intro _ _ _ _ _); walk_at "w"; done)); (case' h4 => intro _))
  | ((with_reducible refine' a_boolsL _ ?h0 ?hv ?h1 ?h2 ?h3 ?h4); (case h0 => walk_at "isl"); (case hv => walk_at "iv"); (case h1 => exact rfl); (case h2 => walk_at "le"); (case h3 => ((intro _ _ _ _ _); walk_at "w"; done)); (case' h4 => intro _))
  | ((with_reducible refine' a_bools _ ?h1 ?h2 ?h3 ?h4); (case h1 => exact rfl); (case h2 => walk_at "le"); (case h3 => ((intro _ _ _ _ _); walk_at "w"; done)); (case' h4 => intro _))
  | ((with_reducible refine' a_dropT ?h0 ?hv ?h1 ?h3 ?h4); (case h0 => walk_at "ist"); (case hv => walk_at "iv"); (case h1 => exact rfl); (case h3 => ((intro _ _ _); walk_at "w"; done)); (case' h4 => intro _))
  | ((with_reducible refine' a_filtT _ ?h0 ?hv ?h1 ?h2 ?h3 ?h4); (case h0 => walk_at "ist"); (case hv => walk_at "iv"); (case h1 => exact rfl); (case h2 => walk_at "le"); (case h3 => ((intro _ _ _ _ _); walk_at "w"; done)); (case' h4 => intro _))
  | ((with_reducible refine' a_filt _ ?h0 ?hv ?h1 ?h2 ?h3 ?h4); (case h0 => walk_at "isl"); (case hv => walk_at "iv"); (case h1 => exact rfl); (case h2 => walk_at "le"); (case h3 => ((intro _ _ _ _ _); walk_at "w"; done)); (case' h4 => intro _)))
local macro_rules | `(tactic| walk_at "le") => `(tactic| first | decide | omega | (refine Nat.le_trans cutG_len ?_; omega) | (simp only [List.length_map, List.length_range, List.length_set, List.length_append, List.length_cons, List.length_nil, List.length_replicate, putsM_len, putAt_len] at *; omega) | (refine Nat.le_trans (Nat.le_of_eq (rowAt_len (m := 8) (by walk_at "a8") (by omega) (by walk_at "lt"))) ?_; decide))
local macro_rules | `(tactic| walk_at "rp") => `(tactic| first | with_reducible exact Rp.hd | ((with_reducible apply Rp.tl); walk_at "rp"))
local macro_rules | `(tactic| walk_at "rl") => `(tactic| first | omega | (rw [rowAt_len (by assumption) (by omega) (by omega)]; omega) | (rw [rowAt_len (m := 8) (by walk_at "a8") (by omega) (by walk_at "lt")]; omega))
local macro_rules | `(tactic| walk_at "a8") => `(tactic| first | assumption | ((refine' putAt_all ?h1 ?h2 ?h3); (case h1 => walk_at "a8"); (case h2 => omega); (case h3 => walk_at "lt")) | ((refine' set_8 ?h1 ?h2); (case h1 => walk_at "a8"); (case h2 => walk_at "e8")))
local macro_rules | `(tactic| walk_at "e8") => `(tactic| first | assumption | exact rfl | (simp only [List.length_map, List.length_set, List.length_range]; first | assumption | omega | exact rfl) | (rw [List.length_map]; exact rowAt_len (m := 8) (by walk_at "a8") (by omega) (by walk_at "lt")) | exact rowAt_len (m := 8) (by walk_at "a8") (by omega) (by walk_at "lt"))
local macro_rules | `(tactic| walk_at "bd") => `(tactic| first | assumption | ((refine' Bnd.put ?h1 ?h2 ?h3 ?h4); (case h1 => walk_at "bd"); (case h2 => omega); (case h3 => walk_at "lt"); (case h4 => first | assumption | omega)) | ((refine' Bnd.set ?h1 ?h2); (case h1 => walk_at "bd"); (case h2 => assumption)))
local macro_rules | `(tactic| walk_at "yes") => `(tactic| first | with_reducible exact rfl | assumption | omega | ((with_reducible refine And.intro ?_ ?_) <;> walk_at "yes") | with_reducible exact filt_ff | with_reducible exact filt_nt | exact True.intro)
local macro_rules | `(tactic| walk_at "no") => `(tactic| first | assumption | omega | decide +kernel)
local macro_rules | `(tactic| walk_at "br") => `(tactic| first
  | ((with_reducible refine' s_iteDT ?h1 ?_); (case h1 => walk_at "yes")) | ((with_reducible refine' s_iteDF ?h1 ?_); (case h1 => walk_at "no")) | ((with_reducible refine' s_iteNT ?h1 ?_); (case h1 => walk_at "yes")) | ((with_reducible refine' s_iteNF ?h1 ?_); (case h1 => walk_at "no"))
  | ((with_reducible refine' s_flt ?h1 ?h2 ?h3); (case h1 => exact rfl); (case h3 => walk_at "lic"))
  | with_reducible refine s_iteT ?_ | with_reducible refine s_iteF ?_ | ((with_reducible refine s_iteDx (fun _ => ?_) (fun _ => ?_)) <;> try (exfalso; omega)) | ((with_reducible refine s_iteNx (fun _ => ?_) (fun _ => ?_)) <;> try (exfalso; omega)) | with_reducible refine s_iteNb ?_ | with_reducible refine s_iteb (fun _ => ?_) (fun _ => ?_))
local macro_rules | `(tactic| walk_at "fo") => `(tactic| first
  | walk_at "alt"
  | ((with_reducible refine' s_isi_own ?h1 ?h2 ?h3 ?h4 ?_); (case h1 => first | walk_at "at" | walk_at "atm"); (case h2 => assumption); (case h3 => assumption); (case h4 => assumption))
  | ((with_reducible refine' s_fldv ?h1 ?h2 ?h3 ?h4 ?_); (case h1 => first | walk_at "at" | walk_at "atm"); (case h2 => assumption); (case h3 => assumption); (case h4 => walk_at "fld"))
  | ((with_reducible refine' s_setfv ?h1 ?h2 ?h3 ?h4 ?_); (case h4 => walk_at "wr"); (case h1 => assumption); (case h2 => assumption); (case h3 => walk_at "fz"))
  | ((with_reducible refine' s_objk ?h1 ?h2 ?_); (case h1 => first | walk_at "at" | walk_at "atm"); (case h2 => walk_at "fld"))
  | ((with_reducible refine' tyl_ldT ?h1 ?h2 ?_); (case h1 => first | assumption | exact LdT.nil); (case h2 => walk_at "mem")) | ((with_reducible refine' tyl_ldW ?h1 ?h2 ?_); (case h1 => assumption); (case h2 => walk_at "mem")) | ((with_reducible refine' tyl_ldW (LdP.ldW ?h1) ?h2 ?_); (case h1 => assumption); (case h2 => walk_at "mem")) | ((with_reducible refine' s_tylk ?h1 ?_); (case h1 => walk_at "isl"))
  | (with_reducible refine ⟨(rfl : V.non = V.non), ?_⟩))
local macro_rules | `(tactic| walk_at "s") => `(tactic| first | with_reducible refine SX.go ?_ | walk_at "c" | walk_at "op" | walk_at "fo" | walk_at "br" | walk_at "st" | walk_at "ev")
local macro_rules | `(tactic| walk_at "w") => `(tactic| repeat' walk_at "s")
local macro_rules | `(tactic| walk_at "lt") => `(tactic| first | omega | (simp only [List.length_map, List.length_range, List.length_set, putsM_len, putAt_len]; omega) | (simp only [List.length_set, putAt_len] at *; omega))
local macro_rules | `(tactic| walk_at "go") => `(tactic| repeat with_reducible refine Wk.go ?_)
local macro_rules | `(tactic| walk_at "sl") => `(tactic| try simp only [wipe, List.set_cons_zero, List.set_cons_succ])
local macro_rules | `(tactic| walk_at "alt") => `(tactic| first
  | ((with_reducible refine s_altL ?_); (with_reducible refine SX.go ?_); (with_reducible refine' s_objk ?h1 ?h2 ?_); (case h1 => first | walk_at "at" | walk_at "atm"); (case h2 => walk_at "fld"))
  | ((with_reducible refine s_altR ?_); walk_at "alt")
  | ((with_reducible refine SX.go ?_); (with_reducible refine' s_objk ?h1 ?h2 ?_); (case h1 => first | walk_at "at" | walk_at "atm"); (case h2 => walk_at "fld")))
local macro_rules | `(tactic| walk_at "bv") => `(tactic| first | with_reducible exact BoolsV.map | with_reducible exact BoolsV.nil | ((with_reducible apply BoolsV.cons); walk_at "bv"))
local macro_rules | `(tactic| walk_at "g1") => `(tactic| repeat with_reducible refine Wk.flat ?_)
local macro_rules | `(tactic| walk_at "lc") => `(tactic| first
  | with_reducible refine s_range2 (fun _ => ?_)
  | ((with_reducible refine' s_listR ?h1 ?h2 (fun _ => ?_)); (case h1 => walk_at "at"); (case h2 => omega))
  | ((with_reducible refine' s_sdk ?h1 ?_); (case h1 => first | walk_at "at" | walk_at "atm")))

/-- the law's cell: the script's number at a place, or 0 -/
def cellM (ns : List Int) (k : Int) : Int := if k < ns.length then ns.getD k.toNat 0 else 0
/-- the fields of a layout, as __init__ stores them -/
def fsL (F E B : Int) : List (Str × V) := putF "data" (.int B) (putF "slots" (.int E) (putF "files" (.int F) []))
theorem fsL_files (F E B : Int) : (fsL F E B).lookup ("files" : Str) = some (.int F) := by
  unfold fsL
  rw [lookup_putF, if_neg (by decide +kernel), lookup_putF, if_neg (by decide +kernel), lookup_putF, if_pos rfl]
theorem fsL_slots (F E B : Int) : (fsL F E B).lookup ("slots" : Str) = some (.int E) := by
  unfold fsL
  rw [lookup_putF, if_neg (by decide +kernel), lookup_putF, if_pos rfl]
theorem fsL_data (F E B : Int) : (fsL F E B).lookup ("data" : Str) = some (.int B) := by
  unfold fsL
  rw [lookup_putF, if_pos rfl]
theorem fsL_no {F E B : Int} {m : Str} (h1 : ¬ m = "data") (h2 : ¬ m = "slots") (h3 : ¬ m = "files") : (fsL F E B).lookup m = none := by
  unfold fsL
  rw [lookup_putF, if_neg h1, lookup_putF, if_neg h2, lookup_putF, if_neg h3]
  rfl
/-- a layout stands at p -/
def layC (K : PySem.W.Frag) (p dx : Addr) (F E B : Int) : Chunk := [(p, .ins (He.ga K "Layout") dx (fsL F E B))]
local macro_rules | `(tactic| walk_at "fld") => `(tactic| first | exact fsL_files _ _ _ | exact fsL_slots _ _ _ | exact fsL_data _ _ _ | exact fsL_no (by decide +kernel) (by decide +kernel) (by decide +kernel))
theorem lay_at {K : PySem.W.Frag} {p dx : Addr} {F E B : Int} {L : Lg} (h : layC K p dx F E B ∈ L) : At L p (.ins (He.ga K "Layout") dx (fsL F E B)) := At.mem h List.mem_cons_self
local macro_rules | `(tactic| walk_at "atm") => `(tactic| ((with_reducible refine' lay_at ?h1); (case h1 => walk_at "mem")))
def inB (F E B : Int) : Prop := 2 ≤ F ∧ F ≤ 12 ∧ 1 ≤ E ∧ E ≤ 8 ∧ 2 ≤ B ∧ B ≤ 40
/-- the four numbers of a slot -/
def slotM (F : Int) (rows : List (List Int)) (s : Int) : List Int := cutG (rowAt rows (10 + F + s / 2)) (some (s % 2 * 4)) (some (s % 2 * 4 + 4))
/-- the check of numbers -/
def chkS (ns : List Int) (n : Nat) : Int := ((List.range n).map (fun k : Nat => ((k : Int) + 1) * ns.getD k 0)).sum
def chk (ns : List Int) : Int := chkS ns ns.length % 1000003
theorem chkS_succ (ns : List Int) (n : Nat) : chkS ns (n + 1) = chkS ns n + ((n : Int) + 1) * ns.getD n 0 := by
  unfold chkS
  rw [List.range_succ, List.map_append, List.sum_append]
  simp
theorem chk_b (ns : List Int) : 0 ≤ chk ns ∧ chk ns < 1000003 := by unfold chk; omega
def headM (F E B label : Int) : List Int := [1179, label, F, E, B, 0, 0, chk [1179, label, F, E, B, 0, 0]]
def okN (x : Int) : Bool := decide ((if x < 0 then -x else x) < 10000000000000000000000000000000000000000)
theorem okN_of {x : Int} (h : -10000000000000000000000000000000000000000 < x ∧ x < 10000000000000000000000000000000000000000) : okN x = true := by
  unfold okN
  rw [decide_eq_true_eq]
  split <;> omega
def emptyM (F E B l : Int) : List (List Int) := (((((List.range (10 + F + E + B).toNat).map fun _ => List.replicate 8 (0 : Int)).set 0 (headM F E B l)).set 1 (headM F E B l)).set 10 [2, 0, 0, 0, 0, 0, 0, 0])
theorem emptyM_len (F E B l : Int) : (emptyM F E B l).length = (10 + F + E + B).toNat := by simp [emptyM]
theorem emptyM_b {F E B l : Int} (hb : 2 ≤ F ∧ F ≤ 12 ∧ 1 ≤ E ∧ E ≤ 8 ∧ 2 ≤ B ∧ B ≤ 40) (hl : 0 ≤ l ∧ l < 1000000000000) : Bnd (emptyM F E B l) := by
  have hh : ∀ x ∈ headM F E B l, -10000000000000000000000000000000000000000 < x ∧ x < 10000000000000000000000000000000000000000 := by
    intro x hx
    have := chk_b [1179, l, F, E, B, 0, 0]
    unfold headM at hx
    simp only [List.mem_cons, List.not_mem_nil, or_false] at hx
    omega
  intro r hr
  unfold emptyM at hr
  rcases List.mem_or_eq_of_mem_set hr with hr | rfl
  · rcases List.mem_or_eq_of_mem_set hr with hr | rfl
    · rcases List.mem_or_eq_of_mem_set hr with hr | rfl
      · obtain ⟨_, _, rfl⟩ := List.mem_map.mp hr
        intro x hx
        rw [List.eq_of_mem_replicate hx]
        omega
      · exact hh
    · exact hh
  · intro x hx
    simp only [List.mem_cons, List.not_mem_nil, or_false] at hx
    omega
theorem emptyM_8 (F E B l : Int) : ∀ r ∈ emptyM F E B l, r.length = 8 := by
  intro r hr
  unfold emptyM at hr
  rcases List.mem_or_eq_of_mem_set hr with hr | rfl
  · rcases List.mem_or_eq_of_mem_set hr with hr | rfl
    · rcases List.mem_or_eq_of_mem_set hr with hr | rfl
      · obtain ⟨_, _, rfl⟩ := List.mem_map.mp hr
        rfl
      · rfl
    · rfl
  · rfl
theorem band_m10 (x : Int) : Builtin.bitAnd x 1023 = x % 1024 := by
  by_cases hx : 0 ≤ x
  · rw [bitAnd_pp hx (by decide)]
    have h : x.toNat &&& (1023 : Int).toNat = x.toNat % 1024 := Nat.and_two_pow_sub_one_eq_mod x.toNat 10
    rw [h]
    omega
  · rw [bitAnd_np hx (by decide)]
    have h : (1023 : Int).toNat &&& (Builtin.bitNot x).toNat = (Builtin.bitNot x).toNat % 1024 := by
      rw [Nat.and_comm]
      exact Nat.and_two_pow_sub_one_eq_mod (Builtin.bitNot x).toNat 10
    rw [h]
    unfold Builtin.bitNot
    omega
def drN (c k : Int) : Int := (c + 7919 * k + 1) * 48271 % 2147483647
def drM (c k : Int) : Int := drN c k * (drN c k / 1009 + 69621) % 2147483647
def drQ (c k : Int) : Int := (drM c k + 104729 * k) % 2147483647 * (drM c k / 2003 + 16807) % 2147483647
def drawnM (ns : List Int) (k : Int) : Int := if cellM ns 0 / 1000 % 2 = 1 then Builtin.bitAnd (cellM ns 1 / 2 ^ (10 * k).toNat) 1023 else drQ (cellM ns 1) k
theorem drawnM_b (ns : List Int) (k : Int) : 0 ≤ drawnM ns k ∧ drawnM ns k < 2147483647 := by
  unfold drawnM
  split
  · rw [band_m10]
    omega
  · unfold drQ
    omega
def isHomeM (F E B n : Int) : Prop := n = 2 ∨ (10 ≤ n ∧ n < 10 + F + E + B)
instance (F E B n : Int) : Decidable (isHomeM F E B n) := by unfold isHomeM; infer_instance
def HomesOk (F E B : Int) (hs : List (Int × List Int)) : Prop := hs.length ≤ 6 ∧ (hs.map Prod.fst).Nodup ∧ (∀ w ∈ hs, isHomeM F E B w.1) ∧ (∀ w ∈ hs, w.2.length = 8) ∧ ∀ w ∈ hs, ∀ x ∈ w.2, 0 ≤ x ∧ x < 1000000000000
/-- the rows that stand at addresses -/
def RowsAt (L : Lg) (rs : List Addr) (RR : List (List Int)) : Prop := RR.length = rs.length ∧ ∀ (i : Nat) a r, rs[i]? = some a → RR[i]? = some r → At L a (.lst (r.map V.int))
theorem RowsAt.get {L : Lg} {rs : List Addr} {RR : List (List Int)} (h : RowsAt L rs RR) {i : Nat} (hi : i < rs.length) : At L (adrAt rs (i : Int)) (.lst ((rowAt RR i).map V.int)) := by
  have h1 := get_adr (as := rs) (j := (i : Int)) (by omega) (by omega)
  have h2 := get_row (rows := RR) (j := (i : Int)) (by omega) (by have := h.1; omega)
  simp only [Int.toNat_natCast] at h1 h2
  exact h.2 i _ _ h1 h2
theorem flat_take {RR : List (List Int)} {i : Nat} (h : i < RR.length) : (RR.take (i + 1)).flatten = (RR.take i).flatten ++ rowAt RR i := by
  have h2 := get_row (rows := RR) (j := (i : Int)) (by omega) (by omega)
  simp only [Int.toNat_natCast] at h2
  rw [List.take_succ, h2]
  simp
theorem flat_len {RR : List (List Int)} (h8 : ∀ r ∈ RR, r.length = 8) : RR.flatten.length = 8 * RR.length := by
  induction RR with
  | nil => rfl
  | cons r RR ih =>
    rw [List.flatten_cons, List.length_append, ih (fun r hr => h8 r (List.mem_cons_of_mem _ hr)), h8 r List.mem_cons_self, List.length_cons]
    omega
theorem RowsAt.vol {p : Addr} {as : List Addr} {rows : List (List Int)} {L : Lg} (hm : volC p as rows ∈ L) (hl : as.length = rows.length) (lo hi : Option Int) : RowsAt L (cutG as lo hi) (cutG rows lo hi) := by
  obtain ⟨a, n, e1, e2⟩ := cutG_same hl lo hi
  rw [e1, e2]
  refine ⟨by simp [hl], fun i b r h1 h2 => ?_⟩
  rw [List.getElem?_take, List.getElem?_drop] at h1 h2
  split at h1
  · rw [if_pos ‹_›] at h2
    exact vol_row hm h1 h2
  · cases h1
theorem RowsAt.snd {C : Chunk} {L : Lg} {rs : List Addr} {ws : List (Int × List Int)} (hl : rs.length = ws.length) (h : ∀ (i : Nat) a w, rs[i]? = some a → ws[i]? = some w → (a, HO.lst (w.2.map V.int)) ∈ C) (hm : C ∈ L) : RowsAt L rs (ws.map Prod.snd) := by
  refine ⟨by simp [hl], fun i a r h1 h2 => ?_⟩
  rw [List.getElem?_map] at h2
  obtain ⟨w, hw, rfl⟩ := Option.map_eq_some_iff.mp h2
  exact At.mem hm (h i a w h1 hw)
theorem cut_all {α : Type} {P : α → Prop} {xs : List α} (h : ∀ x ∈ xs, P x) (lo hi : Option Int) : ∀ x ∈ cutG xs lo hi, P x := fun x hx => h x (List.mem_of_mem_drop (List.mem_of_mem_take hx))
theorem cut_lohi_len {α : Type} {xs : List α} {a b : Int} (ha : 0 ≤ a) (hb : 0 ≤ b) {n : Nat} (h : b - a ≤ n) : (cutG xs (some a) (some b)).length ≤ n := by
  rw [cutG_lohi ha hb, List.length_take]
  omega
def heW (R : List (List Int)) : List Int := rowAt R 3
def tgW (R : List (List Int)) : List Int := cutG (rowAt R 3) (some 2) none
def wholeM (F E B : Int) (R : List (List Int)) : Prop := 1 ≤ (rowAt R 3).getD 0 0 ∧ (rowAt R 3).getD 0 0 ≤ 6 ∧ ((∀ x ∈ cutG (tgW R) none (some ((rowAt R 3).getD 0 0)), isHomeM F E B x) ∧ (cutG (tgW R) none (some ((rowAt R 3).getD 0 0))).Nodup) ∧ cutG (tgW R) (some ((rowAt R 3).getD 0 0)) none = List.replicate (6 - (rowAt R 3).getD 0 0).toNat 0 ∧ (rowAt R 3).getD 1 0 = chk ((rowAt R 3).getD 0 0 :: (tgW R ++ (cutG R (some 4) (some (4 + (rowAt R 3).getD 0 0))).flatten))
noncomputable instance (F E B : Int) (R : List (List Int)) : Decidable (wholeM F E B R) := Classical.propDecidable _
theorem tgW_eq (R : List (List Int)) : tgW R = (rowAt R 3).drop 2 := by
  unfold tgW
  rw [cutG_lo (by omega)]
  rfl
theorem lw1 {R : List (List Int)} {c : Int} (h : 0 ≤ c) : cutG (rowAt R 3) (some 2) (some (2 + c)) = cutG (tgW R) none (some c) := by
  rw [tgW_eq, cutG_lohi (by omega) (by omega), cutG_hi h]
  congr 1
  omega
theorem lw2 {R : List (List Int)} {c : Int} (h : 0 ≤ c) : cutG (rowAt R 3) (some (2 + c)) none = cutG (tgW R) (some c) none := by
  rw [tgW_eq, cutG_lo (by omega), cutG_lo h, List.drop_drop]
  congr 1
  omega
theorem lw3 {xs : List Int} {n : Nat} (h : xs.length = n) : xs.filter (fun x => !decide (x = 0)) = [] ↔ xs = List.replicate n 0 := by
  rw [List.filter_eq_nil_iff, List.eq_replicate_iff]
  constructor
  · intro z
    exact ⟨h, fun b hb => by have := z b hb; simpa using this⟩
  · rintro ⟨_, z⟩ b hb
    simp [z b hb]
theorem lw4 {F E B : Int} {xs : List Int} : xs.filter (fun x => !decide (isHomeM F E B x)) = [] ↔ ∀ x ∈ xs, isHomeM F E B x := by
  rw [List.filter_eq_nil_iff]
  constructor
  · intro z x hx
    have := z x hx
    simpa using this
  · intro z x hx
    simp [z x hx]
theorem rowAt_drop {R : List (List Int)} {n : Nat} {i : Int} (h : 0 ≤ i) : rowAt (R.drop n) i = rowAt R (n + i) := by
  unfold rowAt
  rw [List.getD_eq_getElem?_getD, List.getD_eq_getElem?_getD, List.getElem?_drop]
  congr 2
  omega
theorem cut4 {R : List (List Int)} {c : Int} (h : 0 ≤ c) : cutG R (some 4) (some (4 + c)) = (R.drop 4).take c.toNat := by
  rw [cutG_lohi (by omega) (by omega)]
  congr 1
  omega
def jourM (hs : List (Int × List Int)) : List Int := [(hs.length : Int), chk ((hs.length : Int) :: (hs.map Prod.fst ++ List.replicate (6 - hs.length) 0 ++ (hs.map Prod.snd).flatten))] ++ (hs.map Prod.fst ++ List.replicate (6 - hs.length) 0)
theorem jourM_8 {hs : List (Int × List Int)} (h : hs.length ≤ 6) : (jourM hs).length = 8 := by
  unfold jourM
  simp
  omega
theorem jourM_b {F E B : Int} {hs : List (Int × List Int)} (h : HomesOk F E B hs) (hb : 2 ≤ F ∧ F ≤ 12 ∧ 1 ≤ E ∧ E ≤ 8 ∧ 2 ≤ B ∧ B ≤ 40) : ∀ x ∈ jourM hs, -10000000000000000000000000000000000000000 < x ∧ x < 10000000000000000000000000000000000000000 := by
  obtain ⟨h1, _, h3, _, _⟩ := h
  intro x hx
  unfold jourM at hx
  have hc := chk_b ((hs.length : Int) :: (hs.map Prod.fst ++ List.replicate (6 - hs.length) 0 ++ (hs.map Prod.snd).flatten))
  simp only [List.mem_append, List.mem_cons, List.not_mem_nil, or_false, List.mem_map, List.mem_replicate] at hx
  rcases hx with (rfl | rfl) | (⟨w, hw, rfl⟩ | ⟨_, rfl⟩)
  · omega
  · omega
  · have := h3 w hw
    unfold isHomeM at this
    omega
  · omega
/-- the slot's four numbers -/
def slG (F : Int) (R : List (List Int)) (s : Int) (j : Nat) : Int := (slotM F R s).getD j 0
theorem slotM_eq {F : Int} {R : List (List Int)} {s : Int} (h8 : ∀ r ∈ R, r.length = 8) (h0 : 0 ≤ 10 + F + s / 2) (h1 : 10 + F + s / 2 < R.length) : slotM F R s = [slG F R s 0, slG F R s 1, slG F R s 2, slG F R s 3] := by
  have hr := rowAt_len h8 h0 h1
  have hl : (slotM F R s).length = 4 := by
    unfold slotM
    rw [cut_len (by omega) (by omega) (by omega)]
    omega
  unfold slG
  match slotM F R s, hl with
  | [_, _, _, _], _ => rfl
/-- the kind of a record -/
def kindM (R : List (List Int)) (f : Int) : Int := (rowAt R (10 + f)).getD 0 0
/-- blocks taken and places of wrong pointers -/
abbrev St2 := List Int × List (List Int)
def jud (R : List (List Int)) (lo hi b a : Int) (w : Bool) (s : St2) : Bool × St2 :=
  if (rowAt R b).getD a.toNat 0 = 0 then (false, s)
  else if w = true ∧ (lo ≤ (rowAt R b).getD a.toNat 0 ∧ (rowAt R b).getD a.toNat 0 < hi) ∧ ¬ (rowAt R b).getD a.toNat 0 ∈ s.1 then (true, (s.1 ++ [(rowAt R b).getD a.toNat 0], s.2))
  else (false, (s.1, s.2 ++ [[b, a, 0]]))
def sz2 (s : St2) : Nat := s.1.length + s.2.length
section
variable {R : List (List Int)} {lo hi b a : Int} {w : Bool} {s : St2}
theorem jud_0 (h : (rowAt R b).getD a.toNat 0 = 0) : jud R lo hi b a w s = (false, s) := by unfold jud; rw [if_pos h]
theorem jud_1 (h0 : ¬ (rowAt R b).getD a.toNat 0 = 0) (h1 : w = true) (h2 : lo ≤ (rowAt R b).getD a.toNat 0 ∧ (rowAt R b).getD a.toNat 0 < hi) (h3 : ¬ (rowAt R b).getD a.toNat 0 ∈ s.1) : jud R lo hi b a w s = (true, (s.1 ++ [(rowAt R b).getD a.toNat 0], s.2)) := by unfold jud; rw [if_neg h0, if_pos ⟨h1, h2, h3⟩]
theorem jud_2 (h0 : ¬ (rowAt R b).getD a.toNat 0 = 0) (h : ¬ (w = true ∧ (lo ≤ (rowAt R b).getD a.toNat 0 ∧ (rowAt R b).getD a.toNat 0 < hi) ∧ ¬ (rowAt R b).getD a.toNat 0 ∈ s.1)) : jud R lo hi b a w s = (false, (s.1, s.2 ++ [[b, a, 0]])) := by unfold jud; rw [if_neg h0, if_neg h]
theorem jud_sz : sz2 (jud R lo hi b a w s).2 ≤ sz2 s + 1 := by
  unfold jud sz2
  split
  · show s.1.length + s.2.length ≤ _
    omega
  · split
    · simp only [List.length_append, List.length_singleton]; omega
    · simp only [List.length_append, List.length_singleton]; omega
theorem jud_t (h : (jud R lo hi b a w s).1 = true) : lo ≤ (rowAt R b).getD a.toNat 0 ∧ (rowAt R b).getD a.toNat 0 < hi := by
  unfold jud at h
  split at h
  · exact absurd h Bool.false_ne_true
  · split at h
    · rename_i _ h2
      exact h2.2.1
    · exact absurd h Bool.false_ne_true
end
def iterM {α : Type} (g : Nat → α → α) (n : Nat) (s : α) : α := (List.range n).foldl (fun s k => g k s) s
theorem iterM_0 {α : Type} {g : Nat → α → α} {s : α} : iterM g 0 s = s := rfl
theorem iterM_succ {α : Type} {g : Nat → α → α} {n : Nat} {s : α} : iterM g (n + 1) s = g n (iterM g n s) := by
  unfold iterM
  rw [List.range_succ, List.foldl_append]
  rfl
theorem iterM_congr {α : Type} {g h : Nat → α → α} {n : Nat} {s : α} (e : ∀ k s, k < n → g k s = h k s) : iterM g n s = iterM h n s := by
  induction n with
  | zero => rfl
  | succ n ih => rw [iterM_succ, iterM_succ, ih (fun k s hk => e k s (by omega)), e n _ (by omega)]
theorem iterM_sz {g : Nat → St2 → St2} {m : Nat} (h : ∀ k s, sz2 (g k s) ≤ sz2 s + m) {s : St2} : ∀ n, sz2 (iterM g n s) ≤ sz2 s + m * n
  | 0 => by rw [iterM_0]; omega
  | n + 1 => by
    have := iterM_sz h (s := s) n
    have := h n (iterM g n s)
    rw [iterM_succ, Nat.mul_succ]
    omega
def j3 (R : List (List Int)) (lo hi f : Int) (k : Nat) (s : St2) : St2 := (jud R lo hi (10 + f) (4 + (k : Int)) (decide (8 * (k : Int) < (rowAt R (10 + f)).getD 1 0)) s).2
def j8 (R : List (List Int)) (lo hi f : Int) (k : Nat) (s : St2) : St2 := (jud R lo hi ((rowAt R (10 + f)).getD 7 0) (k : Int) (decide (8 * ((k : Int) + 3) < (rowAt R (10 + f)).getD 1 0)) s).2
def jm (R : List (List Int)) (lo hi f : Int) (s : St2) : Bool × St2 := jud R lo hi (10 + f) 7 (decide (24 < (rowAt R (10 + f)).getD 1 0)) (iterM (j3 R lo hi f) 3 s)
def fileW (R : List (List Int)) (lo hi f : Int) (s : St2) : St2 := if (jm R lo hi f s).1 = true then iterM (j8 R lo hi f) 8 (jm R lo hi f s).2 else (jm R lo hi f s).2
def fstep (R : List (List Int)) (lo hi : Int) (i : Nat) (s : St2) : St2 := if kindM R (1 + (i : Int)) = 1 then fileW R lo hi (1 + (i : Int)) s else s
def filesW (R : List (List Int)) (lo hi : Int) (n : Nat) : St2 := iterM (fstep R lo hi) n ([], [])
theorem j3_sz {R : List (List Int)} {lo hi f : Int} : ∀ k s, sz2 (j3 R lo hi f k s) ≤ sz2 s + 1 := fun _ _ => jud_sz
theorem j8_sz {R : List (List Int)} {lo hi f : Int} : ∀ k s, sz2 (j8 R lo hi f k s) ≤ sz2 s + 1 := fun _ _ => jud_sz
theorem jm_sz {R : List (List Int)} {lo hi f : Int} {s : St2} : sz2 (jm R lo hi f s).2 ≤ sz2 s + 4 := by
  have h1 := iterM_sz (j3_sz (R := R) (lo := lo) (hi := hi) (f := f)) (s := s) 3
  have h2 := jud_sz (R := R) (lo := lo) (hi := hi) (b := 10 + f) (a := 7) (w := decide (24 < (rowAt R (10 + f)).getD 1 0)) (s := iterM (j3 R lo hi f) 3 s)
  unfold jm
  omega
theorem fileW_sz {R : List (List Int)} {lo hi f : Int} {s : St2} : sz2 (fileW R lo hi f s) ≤ sz2 s + 12 := by
  have h1 := jm_sz (R := R) (lo := lo) (hi := hi) (f := f) (s := s)
  have h2 := iterM_sz (j8_sz (R := R) (lo := lo) (hi := hi) (f := f)) (s := (jm R lo hi f s).2) 8
  unfold fileW
  split <;> omega
theorem fstep_sz {R : List (List Int)} {lo hi : Int} : ∀ i s, sz2 (fstep R lo hi i s) ≤ sz2 s + 12 := by
  intro i s
  have := fileW_sz (R := R) (lo := lo) (hi := hi) (f := 1 + (i : Int)) (s := s)
  unfold fstep
  split <;> omega
theorem filesW_sz {R : List (List Int)} {lo hi : Int} (n : Nat) : sz2 (filesW R lo hi n) ≤ 12 * n := by
  have := iterM_sz (fstep_sz (R := R) (lo := lo) (hi := hi)) (s := ([], [])) n
  unfold filesW
  have e : sz2 ([], []) = 0 := rfl
  omega
/-- a dict of numbers, each True -/
def kvT (tk : List Int) : List (Key × V) := tk.map fun x => ((.inl x : Key), V.bl true)
theorem kvT_val (x : Int) : ∀ tk : List Int, (valV (kvT tk) (.inl x)).isSome = decide (x ∈ tk)
  | [] => rfl
  | n :: tk => by
    have ih := kvT_val x tk
    unfold valV kvT at ih ⊢
    rw [List.map_cons, List.find?_cons]
    by_cases e : n = x
    · subst e
      simp
    · have e' : ¬ x = n := fun h => e h.symm
      simp only [Sum.inl.injEq, e, decide_false, List.mem_cons, e', false_or]
      exact ih
theorem kvT_put {x : Int} {tk : List Int} (h : ¬ x ∈ tk) : putK (kvT tk) (.inl x) (.bl true) = kvT (tk ++ [x]) := by
  rw [putK_new]
  · unfold kvT
    rw [List.map_append]
    rfl
  · have := kvT_val x tk
    rw [decide_eq_false h] at this
    exact Option.isSome_eq_false_iff.mp this |> fun z => by simpa using z
section
variable {K : PySem.W.Frag} {L L1 : Lg} {p : Addr} {tk : List Int} {x : Int} {Q : LVK}
theorem s_nin_dt (h : At L p (.dK (kvT tk))) (k : Q (.bl (!decide (x ∈ tk))) L) : gIn K true (.int x) (.ref p) L Q := s_nin_d h (by rw [kvT_val]; exact k)
theorem s_in_dt (h : At L p (.dK (kvT tk))) (k : Q (.bl (decide (x ∈ tk))) L) : gIn K false (.int x) (.ref p) L Q := s_in_d h (by rw [kvT_val]; exact k)
theorem s_set_dt {Q : Lg → Prop} (hw : Wr p (.dK (kvT tk)) (.dK (kvT (tk ++ [x]))) L L1) (hn : ¬ x ∈ tk) (hz : tk.length < 1000000) (k : Q L1) : gSet (.ref p) (.int x) (.bl true) L Q := s_set_d (kvs := kvT tk) (by rw [kvT_put hn]; exact hw) (by unfold kvT; rw [List.length_map]; exact hz) k
end
local macro_rules | `(tactic| walk_at "c") => `(tactic| first | ((with_reducible refine' s_nin_dt ?h1 ?_); (case h1 => walk_at "at")) | ((with_reducible refine' s_in_dt ?h1 ?_); (case h1 => walk_at "at")) | ((with_reducible refine' s_set_dt ?h1 ?h2 ?h3 ?_); (case h1 => walk_at "wr"); (case h2 => assumption); (case h3 => omega)))
theorem iterM_inv {g : Nat → St2 → St2} {P : St2 → Prop} (h : ∀ k s, P s → P (g k s)) {s : St2} (hs : P s) : ∀ n, P (iterM g n s)
  | 0 => hs
  | n + 1 => by
    rw [iterM_succ]
    exact h n _ (iterM_inv h hs n)
theorem files_inv {P : St2 → Prop} {R : List (List Int)} {lo hi : Int} (h : ∀ b a w s, P s → P (jud R lo hi b a w s).2) (h0 : P ([], [])) (n : Nat) : P (filesW R lo hi n) := by
  refine iterM_inv (fun i s hs => ?_) h0 n
  unfold fstep
  split
  · unfold fileW
    have h1 : P (jm R lo hi (1 + (i : Int)) s).2 := h _ _ _ _ (iterM_inv (fun k s hs => h _ _ _ _ hs) hs 3)
    split
    · exact iterM_inv (fun k s hs => h _ _ _ _ hs) h1 8
    · exact h1
  · exact hs
def TkOk (lo hi : Int) (s : St2) : Prop := (∀ n ∈ s.1, lo ≤ n ∧ n < hi) ∧ s.1.Nodup
theorem jud_ok {R : List (List Int)} {lo hi b a : Int} {w : Bool} {s : St2} (hs : TkOk lo hi s) : TkOk lo hi (jud R lo hi b a w s).2 := by
  unfold jud
  split
  · exact hs
  · split
    · rename_i _ hk
      refine ⟨fun n hn => ?_, ?_⟩
      · rcases List.mem_append.mp hn with h | h
        · exact hs.1 n h
        · rw [List.mem_singleton.mp h]; exact hk.2.1
      · refine List.nodup_append.mpr ⟨hs.2, by simp, fun x hx y hy e => ?_⟩
        rw [List.mem_singleton] at hy
        subst hy; subst e
        exact hk.2.2 hx
    · exact hs
theorem filesW_ok {R : List (List Int)} {lo hi : Int} (n : Nat) : TkOk lo hi (filesW R lo hi n) := files_inv (fun _ _ _ _ h => jud_ok h) ⟨fun n hn => absurd hn (by simp), List.nodup_nil⟩ n
/-! ### the map -/
def z8 : List Int := [0, 0, 0, 0, 0, 0, 0, 0]
def mstep (lo : Int) (r : List Int) (n : Int) : List Int := r.set ((n - lo) / 20).toNat (Builtin.bitOr (r.getD ((n - lo) / 20).toNat 0) (1 * 2 ^ ((n - lo) % 20).toNat))
def mapM (lo : Int) (tk : List Int) : List Int := tk.foldl (mstep lo) z8
theorem mstep_len {lo n : Int} {r : List Int} : (mstep lo r n).length = r.length := by unfold mstep; rw [List.length_set]
theorem mapM_len {lo : Int} (tk : List Int) : (mapM lo tk).length = 8 := by
  have : ∀ (tk : List Int) (r : List Int), (tk.foldl (mstep lo) r).length = r.length := by
    intro tk
    induction tk with
    | nil => intro r; rfl
    | cons n tk ih => intro r; rw [List.foldl_cons, ih, mstep_len]
  exact this tk z8
theorem mapM_take {lo : Int} {tk : List Int} {i : Nat} {x : Int} (h : tk[i]? = some x) : mapM lo (tk.take (i + 1)) = mstep lo (mapM lo (tk.take i)) x := by
  unfold mapM
  rw [List.take_succ, h, List.foldl_append]
  rfl
def tkW (F E B : Int) (R : List (List Int)) : List Int := (filesW R (10 + F + E) (10 + F + E + B) (F - 1).toNat).1
def mpst (R : List (List Int)) (due : List Int) (k : Int) : List (List Int) := if (rowAt R 2).getD k.toNat 0 = due.getD k.toNat 0 then [] else [[2, k, due.getD k.toNat 0]]
theorem mpst_len (R : List (List Int)) (due : List Int) (k : Int) : (mpst R due k).length ≤ 1 := by
  unfold mpst
  split <;> simp
def mapW (F E B : Int) (R : List (List Int)) : List (List Int) := accM (fun k : Nat => mpst R (mapM (10 + F + E) (tkW F E B R)) k) 8
theorem kvT_keys (tk : List Int) : (kvT tk).map (fun kv => kV kv.1) = tk.map V.int := by
  unfold kvT
  rw [List.map_map]
  rfl
theorem s_listDT {p : Addr} {tk : List Int} {L : Lg} {Q : LVK} (h : At L p (.dK (kvT tk))) (k : ∀ r, Q (.ref r) ([(r, .lst (tk.map V.int))] :: L)) : gListD [.ref p] L Q := s_listD h (fun r => by rw [kvT_keys]; exact k r)
local macro_rules | `(tactic| walk_at "c") => `(tactic| ((with_reducible refine' s_listDT ?h1 (fun _ => ?_)); (case h1 => walk_at "at")))
/-! the right slots -/
def kindL (F : Int) (R : List (List Int)) (f : Int) : Int := if f = 0 then 2 else if f < 0 ∨ F ≤ f then 0 else kindM R f
def isFoldM (F : Int) (R : List (List Int)) (f : Int) : Prop := f = 0 ∨ (0 < f ∧ f < F ∧ kindM R f = 2)
def isFileM (F : Int) (R : List (List Int)) (f : Int) : Prop := 0 < f ∧ f < F ∧ kindM R f = 1
theorem fold_iff {F : Int} {R : List (List Int)} {f : Int} : isFoldM F R f ↔ kindL F R f = 2 := by
  unfold isFoldM kindL
  by_cases h0 : f = 0
  · simp [h0]
  · rw [if_neg h0]
    by_cases h1 : f < 0 ∨ F ≤ f
    · rw [if_pos h1]; omega
    · rw [if_neg h1]; omega
theorem file_iff {F : Int} {R : List (List Int)} {f : Int} : isFileM F R f ↔ kindL F R f = 1 := by
  unfold isFileM kindL
  by_cases h0 : f = 0
  · simp [h0]
  · rw [if_neg h0]
    by_cases h1 : f < 0 ∨ F ≤ f
    · rw [if_pos h1]; omega
    · rw [if_neg h1]; omega
instance (F : Int) (R : List (List Int)) (f : Int) : Decidable (isFoldM F R f) := by unfold isFoldM; infer_instance
instance (F : Int) (R : List (List Int)) (f : Int) : Decidable (isFileM F R f) := by unfold isFileM; infer_instance
/-- a right slot that stands in the way -/
def clash (F : Int) (R : List (List Int)) (fo na fi : Int) (r : List Int) : Prop := (r.getD 1 0 = fo ∧ r.getD 2 0 = na) ∨ (r.getD 3 0 = fi ∧ isFoldM F R fi)
def rightM (F : Int) (R : List (List Int)) (fo na fi : Int) (rs : List (List Int)) : Prop := ¬ na < 1 ∧ isFoldM F R fo ∧ ¬ fi = 0 ∧ (isFileM F R fi ∨ isFoldM F R fi) ∧ ∀ r ∈ rs, ¬ clash F R fo na fi r
instance (F : Int) (R : List (List Int)) (fo na fi : Int) (r : List Int) : Decidable (clash F R fo na fi r) := by unfold clash; infer_instance
instance (F : Int) (R : List (List Int)) (fo na fi : Int) (rs : List (List Int)) : Decidable (rightM F R fo na fi rs) := by unfold rightM; infer_instance
def okS (F : Int) (R : List (List Int)) (s : Int) (rs : List (List Int)) : Prop := slG F R s 0 = 1 ∧ rightM F R (slG F R s 1) (slG F R s 2) (slG F R s 3) rs
instance (F : Int) (R : List (List Int)) (s : Int) (rs : List (List Int)) : Decidable (okS F R s rs) := by unfold okS; infer_instance
def rstep (F : Int) (R : List (List Int)) (s : Nat) (rs : List (List Int)) : List (List Int) := if okS F R (s : Int) rs then rs ++ [[(s : Int), slG F R s 1, slG F R s 2, slG F R s 3]] else rs
def rightsM (F : Int) (R : List (List Int)) (n : Nat) : List (List Int) := iterM (rstep F R) n []
theorem rightsM_succ {F : Int} {R : List (List Int)} {n : Nat} : rightsM F R (n + 1) = rstep F R n (rightsM F R n) := iterM_succ
theorem rightsM_len {F : Int} {R : List (List Int)} : ∀ n, (rightsM F R n).length ≤ n
  | 0 => Nat.le_refl _
  | n + 1 => by
    have := rightsM_len (F := F) (R := R) n
    rw [rightsM_succ]
    unfold rstep
    split
    · rw [List.length_append, List.length_singleton]; omega
    · omega
theorem rightsM_4 {F : Int} {R : List (List Int)} : ∀ n, ∀ r ∈ rightsM F R n, r.length = 4
  | 0 => fun r hr => absurd hr (by simp [rightsM, iterM])
  | n + 1 => by
    intro r hr
    rw [rightsM_succ] at hr
    unfold rstep at hr
    split at hr
    · rcases List.mem_append.mp hr with h | h
      · exact rightsM_4 n r h
      · rw [List.mem_singleton.mp h]; rfl
    · exact rightsM_4 n r hr
theorem rightsM_heads {F : Int} {R : List (List Int)} : ∀ n (x : Int), x ∈ (rightsM F R n).map (fun r => r.getD 0 0) ↔ ∃ s : Nat, s < n ∧ x = s ∧ okS F R s (rightsM F R s)
  | 0, x => by simp [rightsM, iterM]
  | n + 1, x => by
    have ih := rightsM_heads (F := F) (R := R) n x
    rw [rightsM_succ]
    unfold rstep
    split
    · rename_i hk
      rw [List.map_append, List.mem_append, ih]
      constructor
      · rintro (⟨s, h1, h2⟩ | h)
        · exact ⟨s, by omega, h2⟩
        · have : x = n := by simpa using h
          exact ⟨n, by omega, this, hk⟩
      · rintro ⟨s, h1, h2, h3⟩
        by_cases e : s = n
        · subst e; right; simp [h2]
        · left; exact ⟨s, by omega, h2, h3⟩
    · rename_i hk
      rw [ih]
      constructor
      · rintro ⟨s, h1, h2⟩
        exact ⟨s, by omega, h2⟩
      · rintro ⟨s, h1, h2, h3⟩
        by_cases e : s = n
        · subst e; exact absurd h3 hk
        · exact ⟨s, by omega, h2, h3⟩
def wnst (F : Int) (R : List (List Int)) (s : Nat) : List (List Int) := if ¬ slG F R s 0 = 0 ∧ ¬ okS F R s (rightsM F R s) then [[10 + F + (s : Int) / 2, (s : Int) % 2 * 4, 0]] else []
theorem wnst_len (F : Int) (R : List (List Int)) (s : Nat) : (wnst F R s).length ≤ 1 := by
  unfold wnst
  split <;> simp
def namesW (F E : Int) (R : List (List Int)) : List (List Int) := accM (wnst F R) (2 * E).toNat
theorem list4 {l : List Int} (h : l.length = 4) : ∃ a b c d, l = [a, b, c, d] := by
  match l, h with
  | [a, b, c, d], _ => exact ⟨a, b, c, d, rfl⟩
theorem s_sl_t4 {K : PySem.W.Frag} {p : Addr} {a b c d : V} {L : Lg} {Q : LVK} (h : IsT K L p [a, b, c, d]) (k : ∀ r, Q (.ref r) ([(r, .tup [b, c, d])] :: L)) : gSl K (.ref p) (some 1) none L Q := s_sl_t h (by simp only [List.length_cons, List.length_nil]; decide) (fun r => k r)
theorem s_add_t13 {K : PySem.W.Frag} {p q : Addr} {a b c d : V} {L : Lg} {Q : LVK} (h1 : IsT K L p [a]) (h2 : IsT K L q [b, c, d]) (k : ∀ r, Q (.ref r) ([(r, .tup [a, b, c, d])] :: L)) : gAdd K (.ref p) (.ref q) L Q := s_add_t h1 h2 (by simp) (by simp) (by simp only [List.length_cons, List.length_nil]; decide) (fun r => k r)
theorem s_add_t21 {K : PySem.W.Frag} {p q : Addr} {a b c : V} {L : Lg} {Q : LVK} (h1 : IsT K L p [a, b]) (h2 : IsT K L q [c]) (k : ∀ r, Q (.ref r) ([(r, .tup [a, b, c])] :: L)) : gAdd K (.ref p) (.ref q) L Q := s_add_t h1 h2 (by simp) (by simp) (by simp only [List.length_cons, List.length_nil]; decide) (fun r => k r)
local macro_rules | `(tactic| walk_at "c") => `(tactic| first | ((with_reducible refine' s_sl_t4 ?h1 (fun _ => ?_)); (case h1 => walk_at "ist")) | ((with_reducible refine' s_add_t13 ?h1 ?h2 (fun _ => ?_)); (case h1 => walk_at "ist"); (case h2 => walk_at "ist")) | ((with_reducible refine' s_add_t21 ?h1 ?h2 (fun _ => ?_)); (case h1 => walk_at "ist"); (case h2 => walk_at "ist")))
def useB (F : Int) (R : List (List Int)) (f : Int) : Bool := decide (isFileM F R f ∨ isFoldM F R f)
def useM (F : Int) (R : List (List Int)) : List Int := (rngL 1 (F - 1).toNat).filter (useB F R)
theorem useM_in {F : Int} {R : List (List Int)} {f : Int} (h : f ∈ useM F R) : 1 ≤ f ∧ f < F := by
  have := mem_rngL.mp (List.mem_filter.mp h).1
  omega
theorem useM_len {F : Int} {R : List (List Int)} : (useM F R).length ≤ (F - 1).toNat := Nat.le_trans (List.length_filter_le _ _) (by rw [rngL_len]; exact Nat.le_refl _)
theorem useB_iff {F : Int} {R : List (List Int)} {f : Int} : useB F R f = true ↔ kindL F R f ∈ [1, 2] := by
  unfold useB
  rw [decide_eq_true_iff, file_iff, fold_iff]
  simp
def manyM (F E : Int) (R : List (List Int)) (f : Int) : Int := cntR (rightsM F R (2 * E).toNat) f
def b01 (c : Prop) [Decidable c] : Int := if c then 1 else 0
def fst1 (F E : Int) (R : List (List Int)) (f : Int) : List (List Int) := if (rowAt R (10 + f)).getD 3 0 = b01 (manyM F E R f = 0) then [] else [[10 + f, 3, b01 (manyM F E R f = 0)]]
def cst1 (F E : Int) (R : List (List Int)) (f : Int) : List (List Int) := if (rowAt R (10 + f)).getD 2 0 = manyM F E R f then [] else [[10 + f, 2, manyM F E R f]]
theorem fst1_len (F E : Int) (R : List (List Int)) (f : Int) : (fst1 F E R f).length ≤ 1 := by unfold fst1; split <;> simp
theorem cst1_len (F E : Int) (R : List (List Int)) (f : Int) : (cst1 F E R f).length ≤ 1 := by unfold cst1; split <;> simp
def foundW (F E : Int) (R : List (List Int)) : List (List Int) := accL (fst1 F E R) (useM F R)
def countW (F E : Int) (R : List (List Int)) : List (List Int) := accL (cst1 F E R) (useM F R)
theorem foundW_eq {F E : Int} {R : List (List Int)} : foundW F E R = accM (fun i : Nat => if useB F R (1 + (i : Int)) = true then fst1 F E R (1 + (i : Int)) else []) (F - 1).toNat := accL_filter _ _ _
theorem countW_eq {F E : Int} {R : List (List Int)} : countW F E R = accM (fun i : Nat => if useB F R (1 + (i : Int)) = true then cst1 F E R (1 + (i : Int)) else []) (F - 1).toNat := accL_filter _ _ _
theorem foundW_len {F E : Int} {R : List (List Int)} : (foundW F E R).length ≤ (F - 1).toNat := Nat.le_trans (accL_len (fun f => fst1_len F E R f) _) useM_len
theorem countW_len {F E : Int} {R : List (List Int)} : (countW F E R).length ≤ (F - 1).toNat := Nat.le_trans (accL_len (fun f => cst1_len F E R f) _) useM_len
theorem accL_all {P : List Int → Prop} {g : Int → List (List Int)} {ns : List Int} (h : ∀ x ∈ ns, ∀ t ∈ g x, P t) : ∀ t ∈ accL g ns, P t := by
  intro t ht
  unfold accL at ht
  obtain ⟨l, hl, h2⟩ := List.mem_flatten.mp ht
  obtain ⟨x, hx, rfl⟩ := List.mem_map.mp hl
  exact h x hx t h2
theorem foundW_3 {F E : Int} {R : List (List Int)} : ∀ t ∈ foundW F E R, t.length = 3 := accL_all fun x _ t h => by
  unfold fst1 at h
  split at h
  · exact absurd h (by simp)
  · rw [List.mem_singleton.mp h]; rfl
theorem countW_3 {F E : Int} {R : List (List Int)} : ∀ t ∈ countW F E R, t.length = 3 := accL_all fun x _ t h => by
  unfold cst1 at h
  split at h
  · exact absurd h (by simp)
  · rw [List.mem_singleton.mp h]; rfl
theorem s_int_nb {c : Prop} {d : Decidable c} {L : Lg} {Q : LVK} (k : Q (.int (b01 c)) L) : gInt [.bl (decide c)] L Q := s_int_b (by
  unfold b01 at k
  by_cases h : c
  · rw [if_pos h] at k; rw [decide_eq_true h]; exact k
  · rw [if_neg h] at k; rw [decide_eq_false h]; exact k)
local macro_rules | `(tactic| walk_at "c") => `(tactic| first | with_reducible refine s_int_nb ?_ | ((with_reducible refine' s_nin_cd ?h1 ?h2 ?_); (case h2 => assumption); (case h1 => walk_at "at")) | ((with_reducible refine' s_dgz_cd ?h1 ?h2 ?_); (case h2 => assumption); (case h1 => walk_at "at")))
/-! ways round -/
def itg (g : Int → Int) : Nat → Int → Int
  | 0, x => x
  | n + 1, x => g (itg g n x)
theorem itg_add (g : Int → Int) (b : Nat) (x : Int) : ∀ a, itg g (a + b) x = itg g a (itg g b x)
  | 0 => by rw [Nat.zero_add]; rfl
  | a + 1 => by
    rw [Nat.add_right_comm]
    show g (itg g (a + b) x) = _
    rw [itg_add g b x a]
    rfl
def ringL (g : Int → Int) (f : Int) (n : Nat) : List Int := (List.range n).map fun i => itg g i f
section
variable {g : Int → Int} {f : Int} {n m : Nat}
theorem ringL_len : (ringL g f n).length = n := by simp [ringL]
theorem ringL_succ : ringL g f (n + 1) = ringL g f n ++ [itg g n f] := by
  unfold ringL
  rw [List.range_succ, List.map_append]
  rfl
theorem ringL_last : (ringL g f (n + 1)).getLast? = some (itg g n f) := by rw [ringL_succ]; exact List.getLast?_concat
theorem mem_ringL {x : Int} : x ∈ ringL g f n ↔ ∃ i, i < n ∧ itg g i f = x := by
  unfold ringL
  rw [List.mem_map]
  constructor
  · rintro ⟨i, h, e⟩; exact ⟨i, List.mem_range.mp h, e⟩
  · rintro ⟨i, h, e⟩; exact ⟨i, List.mem_range.mpr h, e⟩
def Dst (g : Int → Int) (f : Int) (n : Nat) : Prop := ∀ i j, i < j → j < n → itg g i f ≠ itg g j f
def Per (g : Int → Int) (f : Int) (n : Nat) : Prop := 0 < n ∧ itg g n f = f ∧ ∀ i, 0 < i → i < n → itg g i f ≠ f
theorem Dst.one : Dst g f 1 := fun i j h1 h2 => by omega
theorem Dst.snoc (h : Dst g f n) (hn : ¬ itg g n f ∈ ringL g f n) : Dst g f (n + 1) := fun i j hij hj => by
  by_cases e : j = n
  · subst e; exact fun z => hn (mem_ringL.mpr ⟨i, hij, z⟩)
  · exact h i j hij (by omega)
theorem Dst.per (h : Dst g f n) (h0 : 0 < n) (e : itg g n f = f) : Per g f n := ⟨h0, e, fun i h1 h2 z => h 0 i h1 h2 z.symm⟩
theorem Per.dst (h : Per g f n) : Dst g f n := fun i j hij hj z => by
  have e1 : itg g (n - j + i) f = f := by
    rw [itg_add, z, ← itg_add, show n - j + j = n by omega]; exact h.2.1
  exact h.2.2 (n - j + i) (by omega) (by omega) e1
theorem Per.uniq (h1 : Per g f n) (h2 : Per g f m) : n = m := by
  rcases Nat.lt_trichotomy n m with h | h | h
  · exact absurd h1.2.1 (h2.2.2 n h1.1 h)
  · exact h
  · exact absurd h2.2.1 (h1.2.2 m h2.1 h)
theorem pig : ∀ (F : Nat) (l : List Int), l.Nodup → (∀ x ∈ l, 0 ≤ x ∧ x < F) → l.length ≤ F
  | 0, l, _, h => by
    cases l with
    | nil => exact Nat.le_refl _
    | cons x xs => have := h x List.mem_cons_self; omega
  | F + 1, l, hn, h => by
    by_cases hm : (F : Int) ∈ l
    · have h1 := pig F (l.erase (F : Int)) (hn.erase _) (fun x hx => by
        have h2 := (List.Nodup.mem_erase_iff hn).mp hx
        have h3 := h x h2.2
        have h4 := h2.1
        omega)
      have := List.length_erase_of_mem hm
      omega
    · have h1 := pig F l hn (fun x hx => by
        have h3 := h x hx
        have h4 : x ≠ F := fun z => hm (z ▸ hx)
        omega)
      omega
theorem Dst.nodup : ∀ {n : Nat}, Dst g f n → (ringL g f n).Nodup
  | 0, _ => List.nodup_nil
  | n + 1, h => by
    rw [ringL_succ, List.nodup_append]
    refine ⟨Dst.nodup (n := n) fun i j h1 h2 => h i j h1 (by omega), by simp, ?_⟩
    intro a ha b hb
    rw [List.mem_singleton] at hb
    subst hb
    obtain ⟨i, hi, rfl⟩ := mem_ringL.mp ha
    exact h i n hi (by omega)
theorem Dst.le {F : Nat} (h : Dst g f n) (hb : ∀ i, i < n → 0 ≤ itg g i f ∧ itg g i f < F) : n ≤ F := by
  have := pig F (ringL g f n) h.nodup (fun x hx => by obtain ⟨i, hi, rfl⟩ := mem_ringL.mp hx; exact hb i hi)
  rwa [ringL_len] at this
theorem itg_dead (h1 : g (-1) = -1) : ∀ k, itg g k (-1) = -1
  | 0 => rfl
  | k + 1 => by show g (itg g k (-1)) = -1; rw [itg_dead h1 k, h1]
theorem noper_dead (hd : Dst g f n) (hf : 0 ≤ f) (e : itg g n f = -1) (h1 : g (-1) = -1) : ∀ m, ¬ Per g f m := fun m hp => by
  by_cases hm : m < n
  · exact hd 0 m hp.1 hm hp.2.1.symm
  · have := itg_add g n f (m - n)
    rw [show m - n + n = m by omega, e, itg_dead h1, hp.2.1] at this
    omega
theorem noper_rho {j : Nat} (hd : Dst g f n) (e : itg g n f = itg g j f) (hj : 0 < j) (hjn : j < n) : ∀ m, ¬ Per g f m := fun m hp => by
  have cl : ∀ p, ∃ i, 1 ≤ i ∧ i < n ∧ itg g (p + 1) f = itg g i f := by
    intro p
    induction p with
    | zero => exact ⟨1, Nat.le_refl _, by omega, rfl⟩
    | succ p ih =>
      obtain ⟨i, h1, h2, h3⟩ := ih
      have e3 : itg g (p + 1 + 1) f = itg g (i + 1) f := by show g (itg g (p + 1) f) = g (itg g i f); rw [h3]
      by_cases hi : i + 1 < n
      · exact ⟨i + 1, by omega, hi, e3⟩
      · have : i + 1 = n := by omega
        exact ⟨j, hj, hjn, by rw [e3, this, e]⟩
  obtain ⟨i, h1, h2, h3⟩ := cl (m - 1)
  have := hp.1
  rw [show m - 1 + 1 = m by omega, hp.2.1] at h3
  exact hd 0 i (by omega) h2 h3
theorem per_exists {c : Int} : ∀ d, 0 < d → itg g d c = c → ∃ p, Per g c p ∧ p ≤ d := by
  intro d
  induction d using Nat.strongRecOn with
  | _ d ih =>
    intro h0 hc
    by_cases h : ∃ i, 0 < i ∧ i < d ∧ itg g i c = c
    · obtain ⟨i, h1, h2, h3⟩ := h
      obtain ⟨p, h4, h5⟩ := ih i h2 h1 h3
      exact ⟨p, h4, by omega⟩
    · exact ⟨d, ⟨h0, hc, fun i h1 h2 z => h ⟨i, h1, h2, z⟩⟩, Nat.le_refl _⟩
theorem itg_mod {c : Int} {d : Nat} (h0 : 0 < d) (hc : itg g d c = c) : ∀ k, ∃ k', k' < d ∧ itg g k c = itg g k' c := by
  intro k
  induction k using Nat.strongRecOn with
  | _ k ih =>
    by_cases h : k < d
    · exact ⟨k, h, rfl⟩
    · obtain ⟨k', h1, h2⟩ := ih (k - d) (by omega)
      refine ⟨k', h1, ?_⟩
      rw [← h2]
      have := itg_add g d c (k - d)
      rw [show k - d + d = k by omega, hc] at this
      exact this
theorem min_at (h : Nat → Int) : ∀ d, ∃ k, k ≤ d ∧ ∀ i, i ≤ d → h k ≤ h i
  | 0 => ⟨0, Nat.le_refl _, fun i hi => by rw [show i = 0 by omega]; exact Int.le_refl _⟩
  | d + 1 => by
    obtain ⟨k, h1, h2⟩ := min_at h d
    by_cases e : h k ≤ h (d + 1)
    · refine ⟨k, by omega, fun i hi => ?_⟩
      by_cases e2 : i = d + 1
      · rw [e2]; exact e
      · exact h2 i (by omega)
    · refine ⟨d + 1, by omega, fun i hi => ?_⟩
      by_cases e2 : i = d + 1
      · rw [e2]; exact Int.le_refl _
      · have := h2 i (by omega); omega
def IsMin (g : Int → Int) (f : Int) : Prop := ∃ n, Per g f n ∧ ∀ y ∈ ringL g f n, f ≤ y
theorem least_in {c : Int} {d : Nat} (h0 : 0 < d) (hc : itg g d c = c) : ∃ k, k < d ∧ IsMin g (itg g k c) := by
  obtain ⟨k, h1, h2⟩ := min_at (fun i => itg g i c) (d - 1)
  have e1 : itg g d (itg g k c) = itg g k c := by rw [← itg_add, Nat.add_comm, itg_add, hc]
  obtain ⟨p, hp, _⟩ := per_exists d h0 e1
  refine ⟨k, by omega, p, hp, fun y hy => ?_⟩
  obtain ⟨i, hi, rfl⟩ := mem_ringL.mp hy
  rw [← itg_add]
  obtain ⟨k', h3, h4⟩ := itg_mod h0 hc (i + k)
  rw [h4]
  exact h2 k' (by omega)
theorem ends_ok {F : Nat} {Ky : Int → Prop} (hk : ∀ x, Ky x → 0 ≤ x ∧ x < F) : ∃ k, k ≤ F ∧ (¬ Ky (itg g k f) ∨ IsMin g (itg g k f)) := by
  refine Classical.byContradiction fun hc => ?_
  have hb : ∀ k, k ≤ F → Ky (itg g k f) ∧ ¬ IsMin g (itg g k f) := fun k h1 => ⟨Classical.byContradiction fun z => hc ⟨k, h1, .inl z⟩, fun z => hc ⟨k, h1, .inr z⟩⟩
  by_cases hd : Dst g f (F + 1)
  · have := hd.le (F := F) (fun i hi => hk _ (hb i (by omega)).1)
    omega
  · refine hd fun i j hij hj z => ?_
    have e1 : itg g (j - i) (itg g i f) = itg g i f := by rw [← itg_add, show j - i + i = j by omega]; exact z.symm
    obtain ⟨k, h1, h2⟩ := least_in (d := j - i) (by omega) e1
    rw [← itg_add] at h2
    exact (hb (k + i) (by omega)).2 h2
theorem Per.keys {Ky : Int → Prop} (h : Per g f n) (hf : 0 ≤ f) (h1 : g (-1) = -1) (hk : ∀ x, ¬ Ky x → g x = -1) : ∀ i, i < n → Ky (itg g i f) := fun i hi => Classical.byContradiction fun z => by
  have e1 : itg g (i + 1) f = -1 := hk _ z
  have := itg_add g (i + 1) f (n - (i + 1))
  rw [show n - (i + 1) + (i + 1) = n by omega, e1, itg_dead h1, h.2.1] at this
  omega
end
/-! ups: file, folder, slot -/
abbrev UpsT := List (Int × Int × Int)
abbrev RowsT := List (List Int)
theorem pw_mem {α : Type} {P : α → α → Prop} {a b : α} : ∀ {l : List α}, l.Pairwise P → a ∈ l → b ∈ l → a = b ∨ P a b ∨ P b a
  | [], _, h, _ => by cases h
  | x :: xs, h, ha, hb => by
    rw [List.pairwise_cons] at h
    rcases List.mem_cons.mp ha with e | e
    · rcases List.mem_cons.mp hb with e2 | e2
      · exact .inl (e.trans e2.symm)
      · exact .inr (.inl (e ▸ h.1 b e2))
    · rcases List.mem_cons.mp hb with e2 | e2
      · exact .inr (.inr (e2 ▸ h.1 a e))
      · exact pw_mem h.2 e e2
theorem pw_take {α : Type} {P : α → α → Prop} {r : α} : ∀ {l : List α} {i : Nat}, l.Pairwise P → l[i]? = some r → ∀ x ∈ l.take i, P x r
  | [], i, _, h => by simp at h
  | y :: ys, 0, _, _ => fun x hx => by simp at hx
  | y :: ys, i + 1, h, e => fun x hx => by
    rw [List.pairwise_cons] at h
    rw [List.take_succ_cons] at hx
    have e' : ys[i]? = some r := by simpa using e
    rcases List.mem_cons.mp hx with e2 | e2
    · rw [e2]; exact h.1 r (List.mem_of_getElem? e')
    · exact pw_take h.2 e' x e2
def upsR (isF : Int → Bool) (rs : List (List Int)) : UpsT := (rs.filter fun r => isF (r.getD 3 0)).map fun r => (r.getD 3 0, r.getD 1 0, r.getD 0 0)
def upD (D : Int × Int → PyData) (ups : UpsT) : List (Int × PyData) := ups.map fun e => (e.1, D e.2)
def keyB (ups : UpsT) (x : Int) : Bool := (lookE ups x).isSome
def gM (ups : UpsT) (x : Int) : Int := match lookE ups x with
  | some r => r.1
  | none => -1
def sM (ups : UpsT) (x : Int) : Int := match lookE ups x with
  | some r => r.2
  | none => -1
def keysU (ups : UpsT) : List Int := ups.map (·.1)
section
variable {ups : UpsT} {D : Int × Int → PyData} {x y : Int} {r : Int × Int} {isF : Int → Bool} {rs : List (List Int)} {t : List Int}
theorem upD_keys : (upD D ups).map (·.1) = keysU ups := by unfold upD keysU; rw [List.map_map]; rfl
theorem upD_len : (upD D ups).length = ups.length := by unfold upD; rw [List.length_map]
theorem look_upD : lookE (upD D ups) x = (lookE ups x).map D := by
  unfold lookE upD
  rw [List.find?_map]
  show Option.map _ (Option.map _ (ups.find? fun e => decide (e.1 = x))) = _
  cases ups.find? (fun e => decide (e.1 = x)) <;> rfl
theorem look_mem (h : lookE ups x = some r) : (x, r) ∈ ups := by
  unfold lookE at h
  obtain ⟨e, h1, h2⟩ := Option.map_eq_some_iff.mp h
  have h3 := List.mem_of_find?_eq_some h1
  have h4 := List.find?_some h1
  have h5 : e.1 = x := by simpa using h4
  rw [← h5, ← h2]
  exact h3
theorem keyB_iff : keyB ups x = true ↔ x ∈ keysU ups := by
  unfold keyB keysU lookE
  rw [Option.isSome_map, List.find?_isSome, List.mem_map]
  constructor
  · rintro ⟨e, h1, h2⟩; exact ⟨e, h1, by simpa using h2⟩
  · rintro ⟨e, h1, h2⟩; exact ⟨e, h1, by simpa using h2⟩
theorem key_look (h : keyB ups x = true) : lookE ups x = some (gM ups x, sM ups x) := by
  unfold keyB at h
  unfold gM sM
  cases e : lookE ups x with
  | none => rw [e] at h; cases h
  | some r => rfl
theorem key_mem (h : keyB ups x = true) : (x, gM ups x, sM ups x) ∈ ups := look_mem (key_look h)
theorem gM_no (h : ¬ keyB ups x = true) : gM ups x = -1 := by
  unfold keyB at h
  unfold gM
  cases e : lookE ups x with
  | none => rfl
  | some r => rw [e] at h; exact absurd rfl h
theorem look_no (h : ¬ keyB ups x = true) : lookE (upD D ups) x = none := by
  rw [look_upD]
  unfold keyB at h
  cases e : lookE ups x with
  | none => rfl
  | some r => rw [e] at h; exact absurd rfl h
theorem upsR_snoc : upsR isF (rs ++ [t]) = upsR isF rs ++ if isF (t.getD 3 0) = true then [(t.getD 3 0, t.getD 1 0, t.getD 0 0)] else [] := by
  unfold upsR
  rw [List.filter_append, List.map_append]
  cases hf : isF (t.getD 3 0)
  · rw [List.filter_cons_of_neg (by rw [hf]; simp)]; rfl
  · rw [List.filter_cons_of_pos (by rw [hf])]; rfl
theorem upsR_len : (upsR isF rs).length ≤ rs.length := by unfold upsR; rw [List.length_map]; exact List.length_filter_le _ _
theorem mem_upsR {e : Int × Int × Int} : e ∈ upsR isF rs ↔ ∃ r ∈ rs, isF (r.getD 3 0) = true ∧ e = (r.getD 3 0, r.getD 1 0, r.getD 0 0) := by
  unfold upsR
  rw [List.mem_map]
  constructor
  · rintro ⟨r, h1, h2⟩
    rw [List.mem_filter] at h1
    exact ⟨r, h1.1, h1.2, h2.symm⟩
  · rintro ⟨r, h1, h2, h3⟩
    exact ⟨r, List.mem_filter.mpr ⟨h1, h2⟩, h3.symm⟩
theorem key_upsR : keyB (upsR isF rs) x = true ↔ ∃ r ∈ rs, r.getD 3 0 = x ∧ isF x = true := by
  rw [keyB_iff]
  unfold keysU
  rw [List.mem_map]
  constructor
  · rintro ⟨e, h1, rfl⟩
    obtain ⟨r, h2, h3, rfl⟩ := mem_upsR.mp h1
    exact ⟨r, h2, rfl, h3⟩
  · rintro ⟨r, h1, rfl, h2⟩
    exact ⟨_, mem_upsR.mpr ⟨r, h1, h2, rfl⟩, rfl⟩
end
structure UpsOk (F E : Int) (ups : UpsT) : Prop where
  pw : ups.Pairwise fun e e' => e.1 ≠ e'.1 ∧ e.2.2 < e'.2.2
  rng : ∀ e ∈ ups, 0 < e.1 ∧ e.1 < F ∧ 0 ≤ e.2.1 ∧ e.2.1 < F ∧ 0 ≤ e.2.2 ∧ e.2.2 < 2 * E
  len : ups.length ≤ (2 * E).toNat
namespace UpsOk
variable {F E : Int} {ups : UpsT} {x y : Int}
theorem nd (h : UpsOk F E ups) : (keysU ups).Nodup := by
  unfold keysU List.Nodup
  rw [List.pairwise_map]
  exact h.pw.imp fun z => z.1
theorem key (h : UpsOk F E ups) (k : keyB ups x = true) : 0 < x ∧ x < F ∧ 0 ≤ gM ups x ∧ gM ups x < F ∧ 0 ≤ sM ups x ∧ sM ups x < 2 * E := h.rng _ (key_mem k)
theorem inj (h : UpsOk F E ups) (kx : keyB ups x = true) (ky : keyB ups y = true) (e : sM ups x = sM ups y) : x = y := by
  rcases pw_mem h.pw (key_mem kx) (key_mem ky) with z | z | z
  · exact congrArg Prod.fst z
  · have := z.2; simp only at this; omega
  · have := z.2; simp only at this; omega
theorem m1 (h : UpsOk F E ups) : gM ups (-1) = -1 := gM_no fun z => by have := h.key z; omega
end UpsOk
theorem rightsM_mem {F : Int} {R : List (List Int)} {r : List Int} : ∀ n, r ∈ rightsM F R n → ∃ s : Nat, s < n ∧ okS F R s (rightsM F R s) ∧ r = [(s : Int), slG F R s 1, slG F R s 2, slG F R s 3]
  | 0 => fun h => absurd h (by simp [rightsM, iterM])
  | n + 1 => by
    intro h
    rw [rightsM_succ] at h
    unfold rstep at h
    split at h
    · rename_i hk
      rcases List.mem_append.mp h with h | h
      · obtain ⟨s, h1, h2⟩ := rightsM_mem n h
        exact ⟨s, by omega, h2⟩
      · exact ⟨n, by omega, hk, List.mem_singleton.mp h⟩
    · obtain ⟨s, h1, h2⟩ := rightsM_mem n h
      exact ⟨s, by omega, h2⟩
theorem rightsM_pw {F : Int} {R : List (List Int)} : ∀ n, (rightsM F R n).Pairwise fun r r' => r.getD 0 0 < r'.getD 0 0 ∧ (isFoldM F R (r'.getD 3 0) → r.getD 3 0 ≠ r'.getD 3 0)
  | 0 => List.Pairwise.nil
  | n + 1 => by
    rw [rightsM_succ]
    unfold rstep
    split
    · rename_i hk
      rw [List.pairwise_append]
      refine ⟨rightsM_pw n, List.pairwise_singleton _ _, fun a ha b hb => ?_⟩
      rw [List.mem_singleton] at hb
      subst hb
      obtain ⟨s, h1, _, e⟩ := rightsM_mem n ha
      refine ⟨?_, fun h2 h3 => hk.2.2.2.2.2 a ha (.inr ⟨h3, h2⟩)⟩
      rw [e]
      show (s : Int) < (n : Int)
      omega
    · exact rightsM_pw n
def foldB (F : Int) (R : List (List Int)) (f : Int) : Bool := decide (isFoldM F R f)
def upsM2 (F : Int) (R : List (List Int)) (n : Nat) : UpsT := upsR (foldB F R) (rightsM F R n)
theorem upsM2_ok {F E : Int} {R : List (List Int)} (hF : 2 ≤ F) : UpsOk F E (upsM2 F R (2 * E).toNat) := by
  refine ⟨?_, fun e he => ?_, Nat.le_trans upsR_len (rightsM_len _)⟩
  · unfold upsM2 upsR
    rw [List.pairwise_map]
    refine List.Pairwise.imp_of_mem (fun {a b} ha hb z => ?_) ((rightsM_pw (F := F) (R := R) (2 * E).toNat).filter _)
    have hb := (List.mem_filter.mp hb).2
    unfold foldB at hb
    exact ⟨z.2 (of_decide_eq_true hb), z.1⟩
  · obtain ⟨r, h1, h2, rfl⟩ := mem_upsR.mp he
    obtain ⟨s, h3, ⟨_, h4, h5, h6, _⟩, rfl⟩ := rightsM_mem _ h1
    unfold foldB at h2
    have h2 := of_decide_eq_true h2
    have e0 : ([(s : Int), slG F R s 1, slG F R s 2, slG F R s 3] : List Int).getD 0 0 = s := rfl
    have e1 : ([(s : Int), slG F R s 1, slG F R s 2, slG F R s 3] : List Int).getD 1 0 = slG F R s 1 := rfl
    have e3 : ([(s : Int), slG F R s 1, slG F R s 2, slG F R s 3] : List Int).getD 3 0 = slG F R s 3 := rfl
    rw [e3] at h2
    simp only [e0, e1, e3]
    unfold isFoldM at h2 h5
    omega
def toldOf (F s : Int) : List Int := [10 + F + s / 2, s % 2 * 4, 0]
theorem toldOf_inj {F s s' : Int} (h : toldOf F s = toldOf F s') : s = s' := by
  unfold toldOf at h
  simp only [List.cons.injEq, and_true] at h
  omega
def dU (r : Int × Int) : PyData := VM.dT [r.1, r.2]
def dV (F : Int) (r : Int × Int) : PyData := .tuple [.int r.1, VM.dT (toldOf F r.2)]
def keysS (ups : UpsT) : List Int := (keysU ups).mergeSort fun a b => decide (a ≤ b)
noncomputable def minB (ups : UpsT) (x : Int) : Bool := @decide (IsMin (gM ups) x) (Classical.propDecidable _)
theorem minB_iff {ups : UpsT} {x : Int} : minB ups x = true ↔ IsMin (gM ups) x := by unfold minB; exact @decide_eq_true_iff _ (Classical.propDecidable _)
noncomputable def ringK (ups : UpsT) : List Int := (keysS ups).filter (minB ups)
noncomputable def ringW (F : Int) (ups : UpsT) : List (List Int) := (ringK ups).map fun f => toldOf F (sM ups f)
theorem keysS_perm (ups : UpsT) : (keysS ups).Perm (keysU ups) := List.mergeSort_perm _ _
theorem keysS_mem {ups : UpsT} {x : Int} : x ∈ keysS ups ↔ keyB ups x = true := by rw [keyB_iff]; exact (keysS_perm ups).mem_iff
theorem keysS_pw (ups : UpsT) : (keysS ups).Pairwise (· ≤ ·) := by
  have h := List.pairwise_mergeSort (le := fun a b : Int => decide (a ≤ b)) (fun a b c h1 h2 => by simp only [decide_eq_true_eq] at *; omega) (fun a b => by simp only [Bool.or_eq_true, decide_eq_true_eq]; omega) (keysU ups)
  exact h.imp fun z => by simpa using z
theorem keysS_eq {ups : UpsT} {ys : List Int} (h1 : ys.Perm (keysU ups)) (h2 : ys.Pairwise (· ≤ ·)) : ys = keysS ups := List.Perm.eq_of_pairwise (le := (· ≤ ·)) (fun a b _ _ z1 z2 => by omega) h2 (keysS_pw ups) (h1.trans (keysS_perm ups).symm)
theorem keysS_lt {F E : Int} {ups : UpsT} (h : UpsOk F E ups) : (keysS ups).Pairwise (· < ·) := by
  have h1 := keysS_pw ups
  have h2 : (keysS ups).Nodup := (keysS_perm ups).nodup_iff.mpr h.nd
  exact (h1.and h2).imp fun z => by have := z.1; have := z.2; omega
theorem ringK_mem {ups : UpsT} {x : Int} : x ∈ ringK ups ↔ keyB ups x = true ∧ IsMin (gM ups) x := by unfold ringK; rw [List.mem_filter, keysS_mem, minB_iff]
theorem ringK_lt {F E : Int} {ups : UpsT} (h : UpsOk F E ups) : (ringK ups).Pairwise (· < ·) := (keysS_lt h).filter _
theorem filter_one {l : List Int} {P : Int → Bool} {f : Int} (hn : l.Nodup) (hf : f ∈ l) (hP : ∀ x ∈ l, P x = true ↔ x = f) : l.filter P = [f] := by
  induction l with
  | nil => cases hf
  | cons a l ih =>
    rw [List.nodup_cons] at hn
    by_cases e : a = f
    · subst e
      rw [List.filter_cons_of_pos ((hP a List.mem_cons_self).mpr rfl)]
      congr 1
      rw [List.filter_eq_nil_iff]
      intro x hx z
      have := (hP x (List.mem_cons_of_mem _ hx)).mp z
      subst this
      exact hn.1 hx
    · rw [List.filter_cons_of_neg (fun z => e ((hP a List.mem_cons_self).mp z))]
      refine ih hn.2 ?_ fun x hx => hP x (List.mem_cons_of_mem _ hx)
      rcases List.mem_cons.mp hf with z | z
      · exact absurd z.symm e
      · exact z
theorem last_lt {l : List Int} {i : Nat} {f : Int} (h : l.Pairwise (· < ·)) (e : l[i]? = some f) : l.take i = [] ∨ ∃ y, (l.take i).getLast? = some y ∧ y < f := by
  cases hl : (l.take i).getLast? with
  | none => exact .inl (List.getLast?_eq_none_iff.mp hl)
  | some y => exact .inr ⟨y, rfl, pw_take h e y (List.mem_of_getLast? hl)⟩
def RingP (ups : UpsT) (f : Int) (ns : List Int) : Prop := (ns = [] ∧ ∀ m, ¬ Per (gM ups) f m) ∨ ∃ n, Per (gM ups) f n ∧ ns = ringL (gM ups) f n
theorem RingP.no {ups : UpsT} {f : Int} {ns : List Int} (h : RingP ups f ns) (e : ns = []) : ¬ IsMin (gM ups) f := fun z => by
  obtain ⟨n, h1, _⟩ := z
  rcases h with ⟨_, h2⟩ | ⟨m, h2, rfl⟩
  · exact h2 n h1
  · have := h2.1
    have e2 := congrArg List.length e
    rw [ringL_len] at e2
    rw [List.length_nil] at e2
    omega
theorem RingP.min {ups : UpsT} {f m : Int} {ns : List Int} (h : RingP ups f ns) (h1 : m ∈ ns) (h2 : ∀ y ∈ ns, m ≤ y) : m = f ↔ IsMin (gM ups) f := by
  rcases h with ⟨rfl, _⟩ | ⟨n, h3, rfl⟩
  · cases h1
  · constructor
    · rintro rfl
      exact ⟨n, h3, h2⟩
    · rintro ⟨k, h4, h5⟩
      have := h3.uniq h4
      subst this
      have h6 := h5 m h1
      have h7 := h2 f (mem_ringL.mpr ⟨0, h3.1, rfl⟩)
      omega
section
variable {ups : UpsT} {f F E : Int} {n : Nat}
theorem RingP.a (hd : Dst (gM ups) f (n + 1)) (e : gM ups (itg (gM ups) n f) = f) : RingP ups f (ringL (gM ups) f (n + 1)) := .inr ⟨n + 1, hd.per (by omega) e, rfl⟩
theorem RingP.b (hd : Dst (gM ups) f (n + 1)) (e : ¬ gM ups (itg (gM ups) n f) = f) (hi : gM ups (itg (gM ups) n f) ∈ ringL (gM ups) f (n + 1)) : RingP ups f [] := .inl ⟨rfl, by
  obtain ⟨j, h1, h2⟩ := mem_ringL.mp hi
  have h0 : 0 < j := by
    cases j with
    | zero => exact absurd h2.symm e
    | succ j => omega
  exact noper_rho hd h2.symm h0 h1⟩
theorem RingP.c (h : UpsOk F E ups) (hd : Dst (gM ups) f (n + 1)) (hf : 0 ≤ f) (e : keyB ups (itg (gM ups) n f) = false) : RingP ups f [] := .inl ⟨rfl, noper_dead hd hf (show gM ups (itg (gM ups) n f) = -1 from gM_no (by rw [e]; decide)) h.m1⟩
end
section
variable {K : PySem.W.Frag} {L : Lg} {c : Chunk} {p : Addr} {ups : UpsT} {x F : Int} {Q : LVK} {D : Int × Int → PyData}
theorem s_eq_non {n : Int} {L : Lg} {Q : LVK} (k : Q (.bl false) L) : gEq K .non (.int n) L Q := .inl ⟨rfl, k⟩
theorem s_in_ud (h : DicF c p (upD D ups)) (hm : c ∈ L) (k : Q (.bl (keyB ups x)) L) : gIn K false (.int x) (.ref p) L Q := s_in_dd h hm (by rw [look_upD, Option.isSome_map]; exact k)
theorem s_nin_ud (h : DicF c p (upD D ups)) (hm : c ∈ L) (k : Q (.bl (!keyB ups x)) L) : gIn K true (.int x) (.ref p) L Q := s_nin_dd h hm (by rw [look_upD, Option.isSome_map]; exact k)
theorem s_ix_ud (h : DicF c p (upD dU ups)) (hm : c ∈ L) (e : keyB ups x = true) (k : ∀ t, At L t (.tup [.int (gM ups x), .int (sM ups x)]) → Q (.ref t) L) : gIx K (.ref p) (.int x) L Q := s_ix_dd h hm (d := dU (gM ups x, sM ups x)) (by rw [look_upD, key_look e]; rfl) fun v t => by
  obtain ⟨a, rfl, h1⟩ := Tel.dT_inv t
  exact k a (At.mem hm h1)
theorem s_ix_vd (h : DicF c p (upD (dV F) ups)) (hm : c ∈ L) (e : keyB ups x = true) (k : ∀ t t2, At L t (.tup [.int (gM ups x), .ref t2]) → At L t2 (.tup ((toldOf F (sM ups x)).map V.int)) → Q (.ref t) L) : gIx K (.ref p) (.int x) L Q := s_ix_dd h hm (d := dV F (gM ups x, sM ups x)) (by rw [look_upD, key_look e]; rfl) fun v t => by
  obtain ⟨a, xs, rfl, h1, h2⟩ := Tel.tup_inv t
  cases h2 with
  | cons t1 t2 =>
    cases t2 with
    | cons t3 t4 =>
      cases t4
      cases t1
      obtain ⟨b, rfl, h3⟩ := Tel.dT_inv t3
      exact k a b (At.mem hm h1) (At.mem hm h3)
end
local macro_rules | `(tactic| walk_at "c") => `(tactic| first
  | with_reducible refine s_eq_non ?_
  | ((with_reducible refine' s_keysD ?h1 ?h2 (fun _ _ _ _ _ _ => ?_)); (case h1 => first | assumption | exact DicD.f (by assumption)); (case h2 => walk_at "pull"))
  | ((with_reducible refine' s_in_ud ?h1 ?h2 ?_); (case h1 => first | assumption | exact DicD.f (by assumption)); (case h2 => walk_at "mem"))
  | ((with_reducible refine' s_nin_ud ?h1 ?h2 ?_); (case h1 => first | assumption | exact DicD.f (by assumption)); (case h2 => walk_at "mem"))
  | ((with_reducible refine' s_ix_ud ?h1 ?h2 ?h3 (fun _ _ => ?_)); (case h1 => first | assumption | exact DicD.f (by assumption)); (case h2 => walk_at "mem"); (case h3 => assumption))
  | ((with_reducible refine' s_ix_vd ?h1 ?h2 ?h3 (fun _ _ _ _ => ?_)); (case h1 => first | assumption | exact DicD.f (by assumption) | exact FrzD.f (by assumption)); (case h2 => walk_at "mem"); (case h3 => assumption))
  | ((with_reducible refine' s_ix_last ?h1 ?h2 ?h3 ?_); (case h1 => walk_at "isl"); (case h2 => walk_at "iv"); (case h3 => first | assumption | (exact List.getLast?_concat) | (exact rfl)))
  | ((with_reducible refine' s_sortedDD ?h1 ?h2 ?h3 (fun _ _ _ _ => ?_)); (case h1 => assumption); (case h2 => walk_at "mem"); (case h3 => (rw [upD_len]; omega)))
  | ((with_reducible refine' s_minD ?h1 ?h2 (fun _ => ?_) (fun _ _ _ => ?_)); (case h1 => walk_at "isl"); (case h2 => walk_at "iv"))
  | ((with_reducible refine' s_min1 ?h1 ?h2 ?h3 (fun _ _ _ => ?_)); (case h1 => walk_at "isl"); (case h2 => walk_at "iv"); (case h3 => first | assumption | omega)))
def dueH (F E B : Int) (R : List (List Int)) : List Int := if rowAt R 0 = headM F E B ((rowAt R 0).getD 1 0) then rowAt R 0 else if rowAt R 1 = headM F E B ((rowAt R 1).getD 1 0) then rowAt R 1 else headM F E B 0
def hst (R : List (List Int)) (d : List Int) (b p : Int) : List (List Int) := if (rowAt R b).getD p.toNat 0 = d.getD p.toNat 0 then [] else [[b, p, d.getD p.toNat 0]]
theorem hst_len (R : List (List Int)) (d : List Int) (b p : Int) : (hst R d b p).length ≤ 1 := by
  unfold hst
  split <;> simp
def ordH : List Int := [1, 0, 2, 3, 4, 5, 6, 7]
def headsM (F E B : Int) (R : List (List Int)) : List (List Int) := accM (fun b : Nat => accL (fun p => hst R (dueH F E B R) b p) ordH) 2
theorem heads_len (R : List (List Int)) (d : List Int) : ∀ n : Nat, (accM (fun b : Nat => accL (fun p => hst R d b p) ordH) n).length ≤ 8 * n
  | 0 => Nat.le_refl _
  | n + 1 => by
    rw [accM_succ, List.length_append]
    have h1 := heads_len R d n
    have h2 := accL_len (g := fun p => hst R d n p) (fun p => hst_len R d n p) ordH
    have h3 : ordH.length = 8 := rfl
    omega
theorem dueH_8 {F E B : Int} {R : List (List Int)} (h8 : ∀ r ∈ R, r.length = 8) (hl : 2 ≤ R.length) : (dueH F E B R).length = 8 := by
  unfold dueH
  split
  · exact rowAt_len h8 (by omega) (by omega)
  · split
    · exact rowAt_len h8 (by omega) (by omega)
    · rfl
/-- a row that stands: in the volume, or alone -/
def StR (p : Addr) (as : List Addr) (rows : List (List Int)) (r : Addr) (c : Chunk) (d : List Int) : Prop := ∀ L, volC p as rows ∈ L → c ∈ L → At L r (.lst (d.map V.int))
theorem StR.vol {p : Addr} {as : List Addr} {rows : List (List Int)} {j : Int} (hl : as.length = rows.length) (h0 : 0 ≤ j) (h1 : j < as.length) : StR p as rows (adrAt as j) [] (rowAt rows j) := fun _ hv _ => row_at hv hl h0 h1
theorem StR.new {p : Addr} {as : List Addr} {rows : List (List Int)} {r : Addr} {d : List Int} : StR p as rows r [(r, .lst (d.map V.int))] d := fun _ _ hm => At.one hm
theorem StR.get {p : Addr} {as : List Addr} {rows : List (List Int)} {r : Addr} {c : Chunk} {d : List Int} {L : Lg} (h : StR p as rows r c d) (h2 : volC p as rows ∈ L) (h3 : c ∈ L) : At L r (.lst (d.map V.int)) := h _ h2 h3
local macro_rules | `(tactic| walk_at "atm") => `(tactic| ((with_reducible refine' StR.get ?h1 ?h2 ?h3); (case h1 => assumption); (case h2 => walk_at "mem"); (case h3 => walk_at "mem")))
def hjst (R : List (List Int)) (a p : Int) : List (List Int) := if (rowAt R ((rowAt R 3).getD (2 + a).toNat 0)).getD p.toNat 0 = (rowAt R (4 + a)).getD p.toNat 0 then [] else [[(rowAt R 3).getD (2 + a).toNat 0, p, (rowAt R (4 + a)).getD p.toNat 0]]
def jhst (R : List (List Int)) (p : Int) : List (List Int) := if (rowAt R 3).getD p.toNat 0 = 0 then [] else [[3, p, 0]]
theorem hjst_len (R : List (List Int)) (a p : Int) : (hjst R a p).length ≤ 1 := by
  unfold hjst
  split <;> simp
theorem jhst_len (R : List (List Int)) (p : Int) : (jhst R p).length ≤ 1 := by
  unfold jhst
  split <;> simp
def hjM (R : List (List Int)) (n : Nat) : List (List Int) := accM (fun a : Nat => accM (fun p : Nat => hjst R a p) 8) n
theorem hjM_len (R : List (List Int)) : ∀ n, (hjM R n).length ≤ 8 * n
  | 0 => Nat.le_refl _
  | n + 1 => by
    unfold hjM
    rw [accM_succ, List.length_append]
    have h1 := hjM_len R n
    have h2 := accM_len (g := fun p : Nat => hjst R n p) (fun p => hjst_len R n p) 8
    unfold hjM at h1
    omega
open Classical in
noncomputable def journalW (F E B : Int) (R : List (List Int)) : List (List Int) := (if wholeM F E B R then hjM R ((rowAt R 3).getD 0 0).toNat else []) ++ accM (fun p : Nat => jhst R p) 8
/-- a whole journal's homes -/
theorem whole_home {F E B : Int} {R : List (List Int)} (h : wholeM F E B R) (h8 : (rowAt R 3).length = 8) {a : Int} (h0 : 0 ≤ a) (h1 : a < (rowAt R 3).getD 0 0) : isHomeM F E B ((rowAt R 3).getD (2 + a).toNat 0) := by
  refine h.2.2.1.1 _ ?_
  have h6 := h.2.1
  rw [tgW_eq, cutG_hi (by omega)]
  have hlt : (2 + a).toNat < (rowAt R 3).length := by omega
  have eg : (rowAt R 3).getD (2 + a).toNat 0 = (rowAt R 3)[(2 + a).toNat] := by rw [List.getD_eq_getElem?_getD, List.getElem?_eq_getElem hlt]; rfl
  rw [eg]
  refine List.mem_of_getElem? (i := a.toNat) ?_
  rw [List.getElem?_take, if_pos (by omega), List.getElem?_drop]
  rw [show 2 + a.toNat = (2 + a).toNat by omega, List.getElem?_eq_getElem hlt]
theorem journalW_len {F E B : Int} {R : List (List Int)} : (journalW F E B R).length ≤ 100 := by
  unfold journalW
  rw [List.length_append]
  have h2 := accM_len (g := fun p : Nat => jhst R p) (fun p => jhst_len R p) 8
  split
  · rename_i h
    have := hjM_len R ((rowAt R 3).getD 0 0).toNat
    have := h.2.1
    omega
  · simp
    omega
def kst (R : List (List Int)) (f : Int) : List (List Int) := if f = 0 then (if (rowAt R (10 + f)).getD 0 0 = 2 then [] else [[10 + f, 0, 2]]) else if (rowAt R (10 + f)).getD 0 0 < 0 ∨ 2 < (rowAt R (10 + f)).getD 0 0 then [[10 + f, 0, 0]] else []
def sst (R : List (List Int)) (f : Int) : List (List Int) := if (rowAt R (10 + f)).getD 0 0 = 1 ∧ ((rowAt R (10 + f)).getD 1 0 < 0 ∨ 88 < (rowAt R (10 + f)).getD 1 0) then [[10 + f, 1, 88]] else []
theorem kst_len (R : List (List Int)) (f : Int) : (kst R f).length ≤ 1 := by
  unfold kst
  (repeat' split) <;> simp
theorem sst_len (R : List (List Int)) (f : Int) : (sst R f).length ≤ 1 := by
  unfold sst
  split <;> simp
def kindsM (F : Int) (R : List (List Int)) : List (List Int) := accM (fun i => kst R i) F.toNat
def sizesM (F : Int) (R : List (List Int)) : List (List Int) := accM (fun i => sst R (1 + (i : Int))) (F - 1).toNat
theorem s_sl_02 {K : PySem.W.Frag} {p : Addr} {xs : List V} {ns : List Int} {L : Lg} {Q : LVK} (h : IsL K L p xs) (v : IntsV xs ns) (hl : ns.length = 8) (k : ∀ r, Q (.ref r) ([(r, .lst [V.int (ns.getD 0 0), V.int (ns.getD 1 0)])] :: L)) : gSl K (.ref p) none (some 2) L Q := by
  have e := v.eq
  subst e
  refine s_sl_i h fun r => ?_
  match ns, hl with
  | [_, _, _, _, _, _, _, _], _ => exact k r
local macro_rules | `(tactic| walk_at "c") => `(tactic| ((with_reducible refine' s_sl_02 ?h1 ?h2 ?h3 (fun _ => ?_)); (case h1 => walk_at "isl"); (case h2 => walk_at "iv"); (case h3 => walk_at "l8")))
local macro_rules | `(tactic| walk_at "l8") => `(tactic| first | assumption | exact rowAt_len (by assumption) (by omega) (by omega))
theorem row_put2 {R : List (List Int)} {i : Nat} {kd sz : Int} (hl : 10 + (i : Int) < R.length) (h8 : ∀ r ∈ R, r.length = 8) (j : Nat) : rowAt (putAt (putAt R (10 + (i : Int)) 0 kd) (10 + (i : Int)) 1 sz) (10 + (j : Int)) = if j = i then ((rowAt R (10 + (i : Int))).set 0 kd).set 1 sz else rowAt R (10 + (j : Int)) := by
  rw [rowAt_putAt (by omega) (by omega) (by rw [putAt_len]; omega)]
  by_cases e : j = i
  · subst e
    rw [if_pos rfl, if_pos rfl, rowAt_putAt (by omega) (by omega) hl, if_pos rfl]
  · rw [if_neg (by omega), if_neg e, rowAt_putAt (by omega) (by omega) hl, if_neg (by omega)]
theorem put2_get {r : List Int} {kd sz : Int} (h : r.length = 8) : ((r.set 0 kd).set 1 sz).getD 0 0 = kd ∧ ((r.set 0 kd).set 1 sz).getD 1 0 = sz := by
  match r, h with
  | [_, _, _, _, _, _, _, _], _ => exact ⟨rfl, rfl⟩
theorem kst_put {R : List (List Int)} {i : Nat} {kd sz : Int} (hl : 10 + (i : Int) < R.length) (h8 : ∀ r ∈ R, r.length = 8) : accM (fun j : Nat => kst (putAt (putAt R (10 + (i : Int)) 0 kd) (10 + (i : Int)) 1 sz) j) (i + 1) = accM (fun j : Nat => kst R j) i ++ (if (i : Int) = 0 then (if kd = 2 then [] else [[10 + (i : Int), 0, 2]]) else if kd < 0 ∨ 2 < kd then [[10 + (i : Int), 0, 0]] else []) := by
  rw [accM_succ]
  congr 1
  · refine accM_congr fun j hj => ?_
    have e : ¬ j = i := by omega
    unfold kst
    simp only [row_put2 hl h8, e, if_false]
  · unfold kst
    rw [row_put2 hl h8, if_pos rfl, (put2_get (rowAt_len h8 (by omega) hl)).1]
theorem sst_put {R : List (List Int)} {i : Nat} {kd sz : Int} (hl : 10 + (i : Int) < R.length) (h8 : ∀ r ∈ R, r.length = 8) : accM (fun j : Nat => if j = 0 then [] else sst (putAt (putAt R (10 + (i : Int)) 0 kd) (10 + (i : Int)) 1 sz) j) (i + 1) = accM (fun j : Nat => if j = 0 then [] else sst R j) i ++ (if i = 0 then [] else if kd = 1 ∧ (sz < 0 ∨ 88 < sz) then [[10 + (i : Int), 1, 88]] else []) := by
  rw [accM_succ]
  congr 1
  · refine accM_congr fun j hj => ?_
    have e : ¬ j = i := by omega
    unfold sst
    simp only [row_put2 hl h8, e, if_false]
  · unfold sst
    rw [row_put2 hl h8, if_pos rfl, (put2_get (rowAt_len h8 (by omega) hl)).1, (put2_get (rowAt_len h8 (by omega) hl)).2]
theorem kst_len2 (kd i : Int) : (if i = 0 then (if kd = 2 then [] else [[10 + i, 0, 2]]) else if kd < 0 ∨ 2 < kd then [[10 + i, 0, 0]] else []).length ≤ 1 := by
  (repeat' split) <;> simp
theorem size_shift (F : Int) (R : List (List Int)) (h : 2 ≤ F) : sizesM F R = accM (fun j : Nat => if j = 0 then [] else sst R j) F.toNat := by
  obtain ⟨n, rfl⟩ : ∃ n : Nat, F = n + 1 := ⟨(F - 1).toNat, by omega⟩
  have e1 : ((n : Int) + 1).toNat = n + 1 := by omega
  have e2 : ((n : Int) + 1 - 1).toNat = n := by omega
  unfold sizesM
  rw [e1, e2]
  unfold accM
  rw [List.range_succ_eq_map, List.map_cons, List.map_map, List.flatten_cons]
  simp only [if_true, List.nil_append]
  congr 1
  refine List.map_congr_left fun j _ => ?_
  simp only [Function.comp, Nat.succ_eq_add_one]
  rw [if_neg (by omega)]
  congr 1
  omega
/-! mend, in plain numbers -/
def cel (R : List (List Int)) (b a : Int) : Int := (rowAt R b).getD a.toNat 0
structure Sh (n : Int) (R : List (List Int)) : Prop where
  len : (R.length : Int) = n
  row : ∀ r ∈ R, r.length = 8
def InT (n : Int) (t : List Int) : Prop := 0 ≤ t.getD 0 0 ∧ t.getD 0 0 < n ∧ 0 ≤ t.getD 1 0 ∧ t.getD 1 0 < 8
def putT (R : List (List Int)) (t : List Int) : List (List Int) := putAt R (t.getD 0 0) (t.getD 1 0).toNat (t.getD 2 0)
def putsT (R : List (List Int)) (ts : List (List Int)) : List (List Int) := ts.foldl putT R
theorem Sh.put {n : Int} {R : List (List Int)} {t : List Int} (h : Sh n R) (ht : InT n t) : Sh n (putT R t) := by
  obtain ⟨h1, h2, h3, h4⟩ := ht
  exact ⟨by unfold putT; rw [putAt_len]; exact h.len, by unfold putT; exact putAt_all h.row (by omega) (by have := h.len; omega)⟩
theorem Sh.puts {n : Int} : ∀ {ts : List (List Int)} {R : List (List Int)}, Sh n R → (∀ t ∈ ts, InT n t) → Sh n (putsT R ts)
  | [], _, h, _ => h
  | t :: ts, R, h, ht => Sh.puts (ts := ts) (h.put (ht t List.mem_cons_self)) fun t' h' => ht t' (List.mem_cons_of_mem _ h')
theorem Sh.rl {n b : Int} {R : List (List Int)} (h : Sh n R) (h0 : 0 ≤ b) (h1 : b < n) : (rowAt R b).length = 8 := rowAt_len h.row h0 (by have := h.len; omega)
theorem cel_put {n : Int} {R : List (List Int)} {t : List Int} {b a : Int} (h : Sh n R) (ht : InT n t) (hb : 0 ≤ b) (ha : 0 ≤ a) : cel (putT R t) b a = if t.getD 0 0 = b ∧ t.getD 1 0 = a then t.getD 2 0 else cel R b a := by
  obtain ⟨h1, h2, h3, h4⟩ := ht
  have hl := h.len
  unfold cel putT
  rw [rowAt_putAt (by omega) (by omega) (by omega)]
  by_cases e : b = t.getD 0 0
  · subst e
    rw [if_pos rfl, List.getD_eq_getElem?_getD, List.getElem?_set]
    have h8 := h.rl h1 h2
    by_cases e2 : t.getD 1 0 = a
    · rw [if_pos (by rw [e2]), if_pos (by omega), if_pos ⟨rfl, e2⟩]; rfl
    · rw [if_neg (by omega), if_neg (fun z => e2 z.2), ← List.getD_eq_getElem?_getD]
  · rw [if_neg e, if_neg (fun z => e z.1.symm)]
/-- a cell that no write names -/
theorem cel_puts_no {n : Int} {b a : Int} (hb : 0 ≤ b) (ha : 0 ≤ a) : ∀ {ts : List (List Int)} {R : List (List Int)}, Sh n R → (∀ t ∈ ts, InT n t) → (∀ t ∈ ts, ¬ (t.getD 0 0 = b ∧ t.getD 1 0 = a)) → cel (putsT R ts) b a = cel R b a
  | [], _, _, _, _ => rfl
  | t :: ts, R, h, ht, hn => by
    have h1 := ht t List.mem_cons_self
    rw [show putsT R (t :: ts) = putsT (putT R t) ts from rfl, cel_puts_no hb ha (h.put h1) (fun t' h' => ht t' (List.mem_cons_of_mem _ h')) (fun t' h' => hn t' (List.mem_cons_of_mem _ h')), cel_put h h1 hb ha, if_neg (hn t List.mem_cons_self)]
/-- a cell to which all writes give the same -/
theorem cel_puts_eq {n : Int} {b a v : Int} (hb : 0 ≤ b) (ha : 0 ≤ a) : ∀ {ts : List (List Int)} {R : List (List Int)}, Sh n R → (∀ t ∈ ts, InT n t) → (∀ t ∈ ts, t.getD 0 0 = b → t.getD 1 0 = a → t.getD 2 0 = v) → ((∃ t ∈ ts, t.getD 0 0 = b ∧ t.getD 1 0 = a) ∨ cel R b a = v) → cel (putsT R ts) b a = v
  | [], _, _, _, _, hx => by
    rcases hx with ⟨t, h, _⟩ | h
    · cases h
    · exact h
  | t :: ts, R, h, ht, hv, hx => by
    have h1 := ht t List.mem_cons_self
    rw [show putsT R (t :: ts) = putsT (putT R t) ts from rfl]
    refine cel_puts_eq hb ha (h.put h1) (fun t' h' => ht t' (List.mem_cons_of_mem _ h')) (fun t' h' => hv t' (List.mem_cons_of_mem _ h')) ?_
    rw [cel_put h h1 hb ha]
    by_cases e : t.getD 0 0 = b ∧ t.getD 1 0 = a
    · rw [if_pos e]; exact .inr (hv t List.mem_cons_self e.1 e.2)
    · rw [if_neg e]
      rcases hx with ⟨t', h', e'⟩ | h'
      · rcases List.mem_cons.mp h' with z | z
        · subst z; exact absurd e' e
        · exact .inl ⟨t', z, e'⟩
      · exact .inr h'
theorem row_ext {n b b' : Int} {R R' : List (List Int)} (h : Sh n R) (h' : Sh n R') (h0 : 0 ≤ b) (h1 : b < n) (h0' : 0 ≤ b') (h1' : b' < n) (e : ∀ a : Int, 0 ≤ a → a < 8 → cel R b a = cel R' b' a) : rowAt R b = rowAt R' b' := by
  have l1 := h.rl h0 h1
  have l2 := h'.rl h0' h1'
  refine List.ext_getElem (by rw [l1, l2]) fun i z1 z2 => ?_
  have := e (i : Int) (by omega) (by omega)
  unfold cel at this
  rw [Int.toNat_natCast, List.getD_eq_getElem?_getD, List.getD_eq_getElem?_getD, List.getElem?_eq_getElem z1, List.getElem?_eq_getElem z2] at this
  exact this
theorem row_is {n b : Int} {R : List (List Int)} {d : List Int} (h : Sh n R) (h0 : 0 ≤ b) (h1 : b < n) (hd : d.length = 8) (e : ∀ a : Int, 0 ≤ a → a < 8 → cel R b a = d.getD a.toNat 0) : rowAt R b = d := by
  have l1 := h.rl h0 h1
  refine List.ext_getElem (by rw [l1, hd]) fun i z1 z2 => ?_
  have := e (i : Int) (by omega) (by omega)
  unfold cel at this
  rw [Int.toNat_natCast, List.getD_eq_getElem?_getD, List.getD_eq_getElem?_getD, List.getElem?_eq_getElem z1, List.getElem?_eq_getElem z2] at this
  exact this
theorem mem_accN {g : Nat → List (List Int)} {n : Nat} {r : List Int} : r ∈ accM g n ↔ ∃ i, i < n ∧ r ∈ g i := by
  unfold accM
  rw [List.mem_flatten]
  constructor
  · rintro ⟨l, hl, hr⟩
    obtain ⟨i, hi, rfl⟩ := List.mem_map.mp hl
    exact ⟨i, List.mem_range.mp hi, hr⟩
  · rintro ⟨i, hi, hr⟩
    exact ⟨_, List.mem_map.mpr ⟨i, List.mem_range.mpr hi, rfl⟩, hr⟩
theorem mem_accLL {g : Int → List (List Int)} {ns : List Int} {r : List Int} : r ∈ accL g ns ↔ ∃ x ∈ ns, r ∈ g x := by
  unfold accL
  rw [List.mem_flatten]
  constructor
  · rintro ⟨l, hl, hr⟩
    obtain ⟨i, hi, rfl⟩ := List.mem_map.mp hl
    exact ⟨i, hi, hr⟩
  · rintro ⟨i, hi, hr⟩
    exact ⟨_, List.mem_map.mpr ⟨i, hi, rfl⟩, hr⟩
theorem nil_of {l : List (List Int)} (h : ∀ t, ¬ t ∈ l) : l = [] := List.eq_nil_iff_forall_not_mem.mpr h
/-! bounds -/
def TOPc : Int := 999999999999
def bst (R : List (List Int)) (b a : Int) : List (List Int) := if cel R b a < 0 ∨ 999999999999 < cel R b a then [[b, a, 0]] else []
def boundsW (R : List (List Int)) : List (List Int) := accM (fun b : Nat => accM (fun a : Nat => bst R b a) 8) R.length
def Bd (n : Int) (R : List (List Int)) : Prop := ∀ b a : Int, 0 ≤ b → b < n → 0 ≤ a → a < 8 → 0 ≤ cel R b a ∧ cel R b a ≤ 999999999999
theorem mem_bounds {R : List (List Int)} {t : List Int} : t ∈ boundsW R ↔ ∃ b a : Nat, b < R.length ∧ a < 8 ∧ (cel R b a < 0 ∨ 999999999999 < cel R b a) ∧ t = [(b : Int), (a : Int), 0] := by
  unfold boundsW
  rw [mem_accN]
  constructor
  · rintro ⟨b, hb, h⟩
    obtain ⟨a, ha, h⟩ := mem_accN.mp h
    unfold bst at h
    split at h
    · rename_i hc
      exact ⟨b, a, hb, ha, hc, List.mem_singleton.mp h⟩
    · cases h
  · rintro ⟨b, a, hb, ha, hc, rfl⟩
    refine ⟨b, hb, mem_accN.mpr ⟨a, ha, ?_⟩⟩
    unfold bst
    rw [if_pos hc]
    exact List.mem_singleton_self _
theorem bounds_in {n : Int} {R : List (List Int)} (h : Sh n R) : ∀ t ∈ boundsW R, InT n t := fun t ht => by
  obtain ⟨b, a, hb, ha, _, rfl⟩ := mem_bounds.mp ht
  have := h.len
  refine ⟨?_, ?_, ?_, ?_⟩ <;> simp <;> omega
theorem bounds_fix {n : Int} {R : List (List Int)} (h : Sh n R) : Bd n (putsT R (boundsW R)) := fun b a h0 h1 h2 h3 => by
  have hl := h.len
  by_cases hc : cel R b a < 0 ∨ 999999999999 < cel R b a
  · have e : cel (putsT R (boundsW R)) b a = 0 := cel_puts_eq h0 h2 h (bounds_in h) (fun t ht _ _ => by obtain ⟨_, _, _, _, _, rfl⟩ := mem_bounds.mp ht; rfl) (.inl ⟨[b, a, 0], mem_bounds.mpr ⟨b.toNat, a.toNat, by omega, by omega, by rw [show ((b.toNat : Nat) : Int) = b by omega, show ((a.toNat : Nat) : Int) = a by omega]; exact hc, by rw [show ((b.toNat : Nat) : Int) = b by omega, show ((a.toNat : Nat) : Int) = a by omega]⟩, rfl, rfl⟩)
    rw [e]; omega
  · rw [cel_puts_no h0 h2 h (bounds_in h) (fun t ht z => by
      obtain ⟨b', a', _, _, hc', rfl⟩ := mem_bounds.mp ht
      obtain ⟨e1, e2⟩ := z
      simp at e1 e2
      subst e1; subst e2
      exact hc hc')]
    omega
theorem bounds_nil {n : Int} {R : List (List Int)} (h : Sh n R) (hb : Bd n R) : boundsW R = [] := nil_of fun t ht => by
  obtain ⟨b, a, h1, h2, h3, _⟩ := mem_bounds.mp ht
  have := hb b a (by omega) (by have := h.len; omega) (by omega) (by omega)
  omega
/-- writes in bounds keep the bounds -/
theorem Bd.puts {n : Int} {R : List (List Int)} {ts : List (List Int)} (hb : Bd n R) (h : Sh n R) (ht : ∀ t ∈ ts, InT n t ∧ 0 ≤ t.getD 2 0 ∧ t.getD 2 0 ≤ 999999999999) : Bd n (putsT R ts) := by
  induction ts generalizing R with
  | nil => exact hb
  | cons t ts ih =>
    have h1 := ht t List.mem_cons_self
    refine ih (R := putT R t) (fun b a h2 h3 h4 h5 => ?_) (h.put h1.1) fun t' h' => ht t' (List.mem_cons_of_mem _ h')
    rw [cel_put h h1.1 h2 h4]
    split
    · exact h1.2
    · exact hb b a h2 h3 h4 h5
/-! heads -/
def Hd (F E B : Int) (R : List (List Int)) : Prop := ∃ l, 0 ≤ l ∧ l ≤ 999999999999 ∧ rowAt R 0 = headM F E B l ∧ rowAt R 1 = headM F E B l
theorem mem_heads {F E B : Int} {R : List (List Int)} {t : List Int} : t ∈ headsM F E B R ↔ ∃ (b : Nat) (p : Int), b < 2 ∧ 0 ≤ p ∧ p < 8 ∧ ¬ cel R b p = (dueH F E B R).getD p.toNat 0 ∧ t = [(b : Int), p, (dueH F E B R).getD p.toNat 0] := by
  unfold headsM
  rw [mem_accN]
  constructor
  · rintro ⟨b, hb, h⟩
    obtain ⟨p, hp, h⟩ := mem_accLL.mp h
    unfold hst at h
    split at h
    · cases h
    · rename_i hc
      refine ⟨b, p, hb, ?_, ?_, hc, List.mem_singleton.mp h⟩ <;> (unfold ordH at hp; simp at hp; omega)
  · rintro ⟨b, p, hb, h0, h1, hc, rfl⟩
    refine ⟨b, hb, mem_accLL.mpr ⟨p, by unfold ordH; simp; omega, ?_⟩⟩
    rw [show hst R (dueH F E B R) b p = _ from if_neg hc]
    exact List.mem_singleton_self _
theorem head_get (F E B l : Int) : (headM F E B l).getD 1 0 = l := rfl
theorem head_due {F E B : Int} {n : Int} {R : List (List Int)} (h : Sh n R) (hn : 2 ≤ n) (hb : Bd n R) : ∃ l, 0 ≤ l ∧ l ≤ 999999999999 ∧ dueH F E B R = headM F E B l := by
  unfold dueH
  have h0 := hb 0 1 (by omega) (by omega) (by omega) (by omega)
  have h1 := hb 1 1 (by omega) (by omega) (by omega) (by omega)
  split
  · rename_i e
    exact ⟨_, h0.1, h0.2, e⟩
  · split
    · rename_i e
      exact ⟨_, h1.1, h1.2, e⟩
    · exact ⟨0, by omega, by omega, rfl⟩
theorem head_b {F E B l a : Int} (hb : inB F E B) (h0 : 0 ≤ l) (h1 : l ≤ 999999999999) (ha : 0 ≤ a) (h8 : a < 8) : 0 ≤ (headM F E B l).getD a.toNat 0 ∧ (headM F E B l).getD a.toNat 0 ≤ 999999999999 := by
  have hc := chk_b [1179, l, F, E, B, 0, 0]
  unfold inB at hb
  unfold headM
  have : a.toNat = 0 ∨ a.toNat = 1 ∨ a.toNat = 2 ∨ a.toNat = 3 ∨ a.toNat = 4 ∨ a.toNat = 5 ∨ a.toNat = 6 ∨ a.toNat = 7 := by omega
  rcases this with e | e | e | e | e | e | e | e <;> rw [e] <;> simp only [List.getD_cons_zero, List.getD_cons_succ] <;> omega
theorem heads_in {F E B n : Int} {R : List (List Int)} (hn : 2 ≤ n) : ∀ t ∈ headsM F E B R, InT n t ∧ t.getD 0 0 < 2 := fun t ht => by
  obtain ⟨b, p, hb, h0, h1, _, rfl⟩ := mem_heads.mp ht
  refine ⟨⟨?_, ?_, ?_, ?_⟩, ?_⟩ <;> simp <;> omega
theorem heads_val {F E B n : Int} {R : List (List Int)} (hb : inB F E B) (h : Sh n R) (hn : 2 ≤ n) (hd : Bd n R) : ∀ t ∈ headsM F E B R, 0 ≤ t.getD 2 0 ∧ t.getD 2 0 ≤ 999999999999 := fun t ht => by
  obtain ⟨b, p, _, h0, h1, _, rfl⟩ := mem_heads.mp ht
  obtain ⟨l, l0, l1, e⟩ := head_due (F := F) (E := E) (B := B) h hn hd
  rw [e]
  exact head_b hb l0 l1 h0 h1
theorem heads_fix {F E B n : Int} {R : List (List Int)} (h : Sh n R) (hn : 2 ≤ n) (hd : Bd n R) : Hd F E B (putsT R (headsM F E B R)) := by
  obtain ⟨l, l0, l1, e⟩ := head_due (F := F) (E := E) (B := B) h hn hd
  have h' : Sh n (putsT R (headsM F E B R)) := h.puts (fun t ht => (heads_in (F := F) (E := E) (B := B) hn t ht).1)
  have key : ∀ b : Nat, b < 2 → rowAt (putsT R (headsM F E B R)) b = headM F E B l := fun b hb => by
    refine row_is h' (by omega) (by omega) rfl fun a h0 h8 => ?_
    refine cel_puts_eq (by omega) h0 h (fun t ht => (heads_in hn t ht).1) (fun t ht e1 e2 => ?_) ?_
    · obtain ⟨b', p, _, _, _, _, rfl⟩ := mem_heads.mp ht
      simp at e1 e2
      subst e2
      rw [e]; rfl
    · by_cases hc : cel R b a = (headM F E B l).getD a.toNat 0
      · exact .inr hc
      · exact .inl ⟨[(b : Int), a, (dueH F E B R).getD a.toNat 0], mem_heads.mpr ⟨b, a, hb, h0, h8, by rw [e]; exact hc, rfl⟩, rfl, rfl⟩
  exact ⟨l, l0, l1, key 0 (by omega), key 1 (by omega)⟩
theorem heads_nil {F E B : Int} {R : List (List Int)} (h : Hd F E B R) : headsM F E B R = [] := nil_of fun t ht => by
  obtain ⟨l, _, _, e0, e1⟩ := h
  have ed : dueH F E B R = headM F E B l := by unfold dueH; rw [e0, head_get, if_pos rfl]
  obtain ⟨b, p, hb, h0, h1, hc, _⟩ := mem_heads.mp ht
  refine hc ?_
  rw [ed]
  unfold cel
  have : b = 0 ∨ b = 1 := by omega
  rcases this with rfl | rfl
  · rw [show ((0 : Nat) : Int) = 0 from rfl, e0]
  · rw [show ((1 : Nat) : Int) = 1 from rfl, e1]
/-! journal -/
def Jn (R : List (List Int)) : Prop := ∀ a : Int, 0 ≤ a → a < 8 → cel R 3 a = 0
def tgt (R : List (List Int)) (a : Nat) : Int := (rowAt R 3).getD (2 + (a : Int)).toNat 0
theorem mem_journal {F E B : Int} {R : List (List Int)} {t : List Int} : t ∈ journalW F E B R ↔ (wholeM F E B R ∧ ∃ a p : Nat, (a : Int) < (rowAt R 3).getD 0 0 ∧ p < 8 ∧ ¬ cel R (tgt R a) p = cel R (4 + (a : Int)) p ∧ t = [tgt R a, (p : Int), cel R (4 + (a : Int)) p]) ∨ ∃ p : Nat, p < 8 ∧ ¬ cel R 3 p = 0 ∧ t = [3, (p : Int), 0] := by
  unfold journalW
  rw [List.mem_append]
  refine or_congr ?_ ?_
  · constructor
    · intro h
      split at h
      · rename_i hw
        refine ⟨hw, ?_⟩
        unfold hjM at h
        obtain ⟨a, ha, h⟩ := mem_accN.mp h
        obtain ⟨p, hp, h⟩ := mem_accN.mp h
        unfold hjst at h
        split at h
        · cases h
        · rename_i hc
          exact ⟨a, p, by omega, hp, hc, List.mem_singleton.mp h⟩
      · cases h
    · rintro ⟨hw, a, p, ha, hp, hc, rfl⟩
      rw [if_pos hw]
      unfold hjM
      refine mem_accN.mpr ⟨a, by omega, mem_accN.mpr ⟨p, hp, ?_⟩⟩
      rw [show hjst R a p = _ from if_neg hc]
      exact List.mem_singleton_self _
  · rw [mem_accN]
    constructor
    · rintro ⟨p, hp, h⟩
      unfold jhst at h
      split at h
      · cases h
      · rename_i hc
        exact ⟨p, hp, hc, List.mem_singleton.mp h⟩
    · rintro ⟨p, hp, hc, rfl⟩
      refine ⟨p, hp, ?_⟩
      rw [show jhst R p = _ from if_neg hc]
      exact List.mem_singleton_self _
theorem journal_in {F E B : Int} {R : List (List Int)} (hb : inB F E B) (h : Sh (10 + F + E + B) R) : ∀ t ∈ journalW F E B R, InT (10 + F + E + B) t ∧ ((t.getD 0 0 = 2 ∨ 10 ≤ t.getD 0 0) ∨ t.getD 0 0 = 3 ∧ t.getD 2 0 = 0) := fun t ht => by
  unfold inB at hb
  rcases mem_journal.mp ht with ⟨hw, a, p, ha, hp, _, rfl⟩ | ⟨p, hp, _, rfl⟩
  · have hh := whole_home hw (h.rl (by omega) (by omega)) (a := (a : Int)) (by omega) ha
    change isHomeM F E B (tgt R a) at hh
    unfold isHomeM at hh
    unfold InT
    simp only [List.getD_cons_zero, List.getD_cons_succ]
    omega
  · unfold InT
    simp
    omega
theorem journal_val {F E B : Int} {R : List (List Int)} (hb : inB F E B) (hd : Bd (10 + F + E + B) R) : ∀ t ∈ journalW F E B R, 0 ≤ t.getD 2 0 ∧ t.getD 2 0 ≤ 999999999999 := fun t ht => by
  unfold inB at hb
  rcases mem_journal.mp ht with ⟨hw, a, p, ha, hp, _, rfl⟩ | ⟨p, hp, _, rfl⟩
  · have := hw.2.1
    exact hd (4 + (a : Int)) p (by omega) (by omega) (by omega) (by omega)
  · simp
theorem journal_fix {F E B : Int} {R : List (List Int)} (hb : inB F E B) (h : Sh (10 + F + E + B) R) : Jn (putsT R (journalW F E B R)) := fun a h0 h8 => by
  refine cel_puts_eq (by omega) h0 h (fun t ht => (journal_in hb h t ht).1) (fun t ht e1 e2 => ?_) ?_
  · have := (journal_in hb h t ht).2
    omega
  · by_cases hc : cel R 3 a = 0
    · exact .inr hc
    · exact .inl ⟨[3, a, 0], mem_journal.mpr (.inr ⟨a.toNat, by omega, by rw [show ((a.toNat : Nat) : Int) = a by omega]; exact hc, by rw [show ((a.toNat : Nat) : Int) = a by omega]⟩), rfl, rfl⟩
theorem journal_nil {F E B : Int} {R : List (List Int)} (h : Jn R) : journalW F E B R = [] := nil_of fun t ht => by
  rcases mem_journal.mp ht with ⟨hw, _⟩ | ⟨p, hp, hc, _⟩
  · have h0 : (rowAt R 3).getD 0 0 = 0 := h 0 (by omega) (by omega)
    have := hw.1
    omega
  · exact hc (h p (by omega) (by omega))
/-! kinds, sizes -/
def Kd (F : Int) (R : List (List Int)) : Prop := cel R 10 0 = 2 ∧ ∀ f, 0 < f → f < F → 0 ≤ cel R (10 + f) 0 ∧ cel R (10 + f) 0 ≤ 2
def Sz (F : Int) (R : List (List Int)) : Prop := ∀ f, 0 < f → f < F → cel R (10 + f) 0 = 1 → 0 ≤ cel R (10 + f) 1 ∧ cel R (10 + f) 1 ≤ 88
theorem mem_kinds {F : Int} {R : List (List Int)} {t : List Int} : t ∈ kindsM F R ↔ ∃ f : Nat, (f : Int) < F ∧ ((f = 0 ∧ ¬ cel R 10 0 = 2 ∧ t = [10, 0, 2]) ∨ (0 < f ∧ (cel R (10 + (f : Int)) 0 < 0 ∨ 2 < cel R (10 + (f : Int)) 0) ∧ t = [10 + (f : Int), 0, 0])) := by
  unfold kindsM
  rw [mem_accN]
  constructor
  · rintro ⟨f, hf, h⟩
    refine ⟨f, by omega, ?_⟩
    unfold kst at h
    split at h
    · rename_i e
      have e : f = 0 := by omega
      subst e
      split at h
      · cases h
      · rename_i hc
        exact .inl ⟨rfl, hc, List.mem_singleton.mp h⟩
    · rename_i e
      split at h
      · rename_i hc
        exact .inr ⟨by omega, hc, List.mem_singleton.mp h⟩
      · cases h
  · rintro ⟨f, hf, ⟨rfl, hc, rfl⟩ | ⟨h0, hc, rfl⟩⟩
    · refine ⟨0, by omega, ?_⟩
      rw [show kst R ((0 : Nat) : Int) = _ from if_pos rfl, show (if (rowAt R (10 + ((0 : Nat) : Int))).getD 0 0 = 2 then [] else [[10 + ((0 : Nat) : Int), 0, 2]]) = _ from if_neg hc]
      exact List.mem_singleton_self _
    · refine ⟨f, by omega, ?_⟩
      rw [show kst R (f : Int) = _ from if_neg (by omega), show (if (rowAt R (10 + (f : Int))).getD 0 0 < 0 ∨ 2 < (rowAt R (10 + (f : Int))).getD 0 0 then [[10 + (f : Int), 0, 0]] else []) = _ from if_pos hc]
      exact List.mem_singleton_self _
theorem kinds_in {F n : Int} {R : List (List Int)} (hn : 10 + F ≤ n) : ∀ t ∈ kindsM F R, InT n t ∧ (10 ≤ t.getD 0 0 ∧ t.getD 0 0 < 10 + F ∧ t.getD 1 0 = 0 ∧ 0 ≤ t.getD 2 0 ∧ t.getD 2 0 ≤ 2) := fun t ht => by
  obtain ⟨f, hf, ⟨rfl, hc, rfl⟩ | ⟨h0, hc, rfl⟩⟩ := mem_kinds.mp ht <;> unfold InT <;> simp <;> omega
theorem kinds_fix {F n : Int} {R : List (List Int)} (h : Sh n R) (hF : 2 ≤ F) (hn : 10 + F ≤ n) : Kd F (putsT R (kindsM F R)) := by
  refine ⟨?_, fun f h0 h1 => ?_⟩
  · refine cel_puts_eq (by omega) (by omega) h (fun t ht => (kinds_in hn t ht).1) (fun t ht e1 e2 => ?_) ?_
    · obtain ⟨f, hf, ⟨rfl, hc, rfl⟩ | ⟨h0, hc, rfl⟩⟩ := mem_kinds.mp ht
      · rfl
      · simp at e1; omega
    · by_cases hc : cel R 10 0 = 2
      · exact .inr hc
      · exact .inl ⟨_, mem_kinds.mpr ⟨0, by omega, .inl ⟨rfl, hc, rfl⟩⟩, rfl, rfl⟩
  · by_cases hc : cel R (10 + f) 0 < 0 ∨ 2 < cel R (10 + f) 0
    · have e : cel (putsT R (kindsM F R)) (10 + f) 0 = 0 := by
        refine cel_puts_eq (by omega) (by omega) h (fun t ht => (kinds_in hn t ht).1) (fun t ht e1 e2 => ?_) (.inl ⟨[10 + f, 0, 0], mem_kinds.mpr ⟨f.toNat, by omega, .inr ⟨by omega, by rw [show ((f.toNat : Nat) : Int) = f by omega]; exact hc, by rw [show ((f.toNat : Nat) : Int) = f by omega]⟩⟩, rfl, rfl⟩)
        obtain ⟨f', hf, ⟨rfl, hc, rfl⟩ | ⟨h0, hc, rfl⟩⟩ := mem_kinds.mp ht
        · simp at e1; omega
        · rfl
      rw [e]; omega
    · rw [cel_puts_no (by omega) (by omega) h (fun t ht => (kinds_in hn t ht).1) (fun t ht z => by
        obtain ⟨f', hf, ⟨rfl, hc', rfl⟩ | ⟨h0', hc', rfl⟩⟩ := mem_kinds.mp ht
        · have := z.1; simp at this; omega
        · have e1 := z.1
          simp at e1
          rw [e1] at hc'
          exact hc hc')]
      omega
theorem kinds_nil {F : Int} {R : List (List Int)} (h : Kd F R) : kindsM F R = [] := nil_of fun t ht => by
  obtain ⟨f, hf, ⟨rfl, hc, _⟩ | ⟨h0, hc, _⟩⟩ := mem_kinds.mp ht
  · exact hc h.1
  · have := h.2 f (by omega) hf; omega
theorem mem_sizes {F : Int} {R : List (List Int)} {t : List Int} : t ∈ sizesM F R ↔ ∃ f : Int, 0 < f ∧ f < F ∧ cel R (10 + f) 0 = 1 ∧ (cel R (10 + f) 1 < 0 ∨ 88 < cel R (10 + f) 1) ∧ t = [10 + f, 1, 88] := by
  unfold sizesM
  rw [mem_accN]
  constructor
  · rintro ⟨f, hf, h⟩
    unfold sst at h
    split at h
    · rename_i hc
      exact ⟨1 + (f : Int), by omega, by omega, hc.1, hc.2, List.mem_singleton.mp h⟩
    · cases h
  · rintro ⟨f, h0, h1, hk, hc, rfl⟩
    refine ⟨(f - 1).toNat, by omega, ?_⟩
    have e : 1 + (((f - 1).toNat : Nat) : Int) = f := by omega
    rw [e]
    rw [show sst R f = _ from if_pos ⟨hk, hc⟩]
    exact List.mem_singleton_self _
theorem sizes_in {F n : Int} {R : List (List Int)} (hn : 10 + F ≤ n) : ∀ t ∈ sizesM F R, InT n t ∧ (10 < t.getD 0 0 ∧ t.getD 0 0 < 10 + F ∧ t.getD 1 0 = 1 ∧ t.getD 2 0 = 88) := fun t ht => by
  obtain ⟨f, h0, h1, _, _, rfl⟩ := mem_sizes.mp ht
  unfold InT
  simp
  omega
theorem sizes_fix {F n : Int} {R : List (List Int)} (h : Sh n R) (hn : 10 + F ≤ n) : Sz F (putsT R (sizesM F R)) := fun f h0 h1 hk => by
  rw [cel_puts_no (by omega) (by omega) h (fun t ht => (sizes_in hn t ht).1) (fun t ht z => by have := (sizes_in hn t ht).2; omega)] at hk
  by_cases hc : cel R (10 + f) 1 < 0 ∨ 88 < cel R (10 + f) 1
  · have e : cel (putsT R (sizesM F R)) (10 + f) 1 = 88 := cel_puts_eq (by omega) (by omega) h (fun t ht => (sizes_in hn t ht).1) (fun t ht _ _ => (sizes_in hn t ht).2.2.2.2) (.inl ⟨_, mem_sizes.mpr ⟨f, h0, h1, hk, hc, rfl⟩, rfl, rfl⟩)
    rw [e]; omega
  · rw [cel_puts_no (by omega) (by omega) h (fun t ht => (sizes_in hn t ht).1) (fun t ht z => by
      obtain ⟨f', h0', h1', hk', hc', rfl⟩ := mem_sizes.mp ht
      have e1 := z.1
      simp at e1
      have e2 : f' = f := by omega
      rw [e2] at hc'
      exact hc hc')]
    omega
theorem sizes_nil {F : Int} {R : List (List Int)} (h : Sz F R) : sizesM F R = [] := nil_of fun t ht => by
  obtain ⟨f, h0, h1, hk, hc, _⟩ := mem_sizes.mp ht
  have := h f h0 h1 hk
  omega
/-! pieces: the walk as a list of visits -/
abbrev Vis := Int × Int × Bool
def cellT (v : Vis) : List Int := [v.1, v.2.1, 0]
def stp (R : List (List Int)) (lo hi : Int) (s : St2) (v : Vis) : St2 := (jud R lo hi v.1 v.2.1 v.2.2 s).2
def runV (R : List (List Int)) (lo hi : Int) (vs : List Vis) (s : St2) : St2 := vs.foldl (stp R lo hi) s
def gd (R : List (List Int)) (lo hi : Int) (v : Vis) (s : St2) : Prop := v.2.2 = true ∧ (lo ≤ cel R v.1 v.2.1 ∧ cel R v.1 v.2.1 < hi) ∧ ¬ cel R v.1 v.2.1 ∈ s.1
section
variable {R R' : List (List Int)} {lo hi : Int} {v : Vis} {s : St2} {vs : List Vis}
theorem jd0 (h : cel R v.1 v.2.1 = 0) : jud R lo hi v.1 v.2.1 v.2.2 s = (false, s) := jud_0 h
theorem jd1 (h0 : ¬ cel R v.1 v.2.1 = 0) (h : gd R lo hi v s) : jud R lo hi v.1 v.2.1 v.2.2 s = (true, (s.1 ++ [cel R v.1 v.2.1], s.2)) := jud_1 h0 h.1 h.2.1 h.2.2
theorem jd2 (h0 : ¬ cel R v.1 v.2.1 = 0) (h : ¬ gd R lo hi v s) : jud R lo hi v.1 v.2.1 v.2.2 s = (false, (s.1, s.2 ++ [cellT v])) := jud_2 h0 h
theorem run_app (ws : List Vis) : runV R lo hi (vs ++ ws) s = runV R lo hi ws (runV R lo hi vs s) := by unfold runV; rw [List.foldl_append]
theorem stp_mono {x : Int} (h : x ∈ s.1) : x ∈ (stp R lo hi s v).1 := by
  unfold stp
  by_cases h0 : cel R v.1 v.2.1 = 0
  · rw [jd0 h0]; exact h
  · by_cases hg : gd R lo hi v s
    · rw [jd1 h0 hg]; exact List.mem_append_left _ h
    · rw [jd2 h0 hg]; exact h
theorem run_mono {x : Int} : ∀ {vs : List Vis} {s : St2}, x ∈ s.1 → x ∈ (runV R lo hi vs s).1
  | [], _, h => h
  | v :: vs, s, h => run_mono (vs := vs) (s := stp R lo hi s v) (stp_mono h)
theorem stp_bad {t : List Int} : t ∈ (stp R lo hi s v).2 ↔ t ∈ s.2 ∨ (¬ cel R v.1 v.2.1 = 0 ∧ ¬ gd R lo hi v s ∧ t = cellT v) := by
  unfold stp
  by_cases h0 : cel R v.1 v.2.1 = 0
  · rw [jd0 h0]; simp [h0]
  · by_cases hg : gd R lo hi v s
    · rw [jd1 h0 hg]; simp [hg]
    · rw [jd2 h0 hg]; simp [h0, hg]
theorem run_bad {t : List Int} : ∀ {vs : List Vis} {s : St2}, t ∈ (runV R lo hi vs s).2 ↔ t ∈ s.2 ∨ ∃ p v q, vs = p ++ v :: q ∧ ¬ cel R v.1 v.2.1 = 0 ∧ ¬ gd R lo hi v (runV R lo hi p s) ∧ t = cellT v
  | [], s => by
    constructor
    · exact fun h => .inl h
    · rintro (h | ⟨p, v, q, e, _⟩)
      · exact h
      · have := congrArg List.length e
        rw [List.length_append, List.length_cons, List.length_nil] at this
        omega
  | w :: vs, s => by
    rw [show runV R lo hi (w :: vs) s = runV R lo hi vs (stp R lo hi s w) from rfl, run_bad (vs := vs), stp_bad]
    constructor
    · rintro ((h | ⟨h1, h2, h3⟩) | ⟨p, v, q, rfl, h1, h2, h3⟩)
      · exact .inl h
      · exact .inr ⟨[], w, vs, rfl, h1, h2, h3⟩
      · exact .inr ⟨w :: p, v, q, rfl, h1, h2, h3⟩
    · rintro (h | ⟨p, v, q, e, h1, h2, h3⟩)
      · exact .inl (.inl h)
      · cases p with
        | nil =>
          simp only [List.nil_append, List.cons.injEq] at e
          obtain ⟨rfl, rfl⟩ := e
          exact .inl (.inr ⟨h1, h2, h3⟩)
        | cons x p =>
          simp only [List.cons_append, List.cons.injEq] at e
          obtain ⟨rfl, rfl⟩ := e
          exact .inr ⟨p, v, q, rfl, h1, h2, h3⟩
theorem split_one {α β : Type} {f : α → β} {v v' : α} : ∀ {p q p' q' : List α}, p ++ v :: q = p' ++ v' :: q' → ((p ++ v :: q).map f).Nodup → f v = f v' → p = p' ∧ v = v'
  | [], q, [], q', e, _, _ => by simp only [List.nil_append, List.cons.injEq] at e; exact ⟨rfl, e.1⟩
  | [], q, y :: p', q', e, hn, hf => by
    simp only [List.nil_append, List.cons_append, List.cons.injEq] at e
    obtain ⟨rfl, rfl⟩ := e
    simp only [List.nil_append, List.map_cons, List.nodup_cons] at hn
    exact absurd (by rw [hf]; exact List.mem_map.mpr ⟨v', by simp, rfl⟩) hn.1
  | x :: p, q, [], q', e, hn, hf => by
    simp only [List.nil_append, List.cons_append, List.cons.injEq] at e
    obtain ⟨rfl, e⟩ := e
    simp only [List.cons_append, List.map_cons, List.nodup_cons] at hn
    exact absurd (by rw [← hf]; exact List.mem_map.mpr ⟨v, by simp, rfl⟩) hn.1
  | x :: p, q, y :: p', q', e, hn, hf => by
    simp only [List.cons_append, List.cons.injEq] at e
    obtain ⟨rfl, e⟩ := e
    simp only [List.cons_append, List.map_cons, List.nodup_cons] at hn
    obtain ⟨rfl, h2⟩ := split_one e hn.2 hf
    exact ⟨rfl, h2⟩
/-- the visits of R again, with the wrong cells zero -/
structure Zim (R R' : List (List Int)) (lo hi : Int) (vs : List Vis) : Prop where
  nd : (vs.map cellT).Nodup
  ce : ∀ v ∈ vs, cel R' v.1 v.2.1 = (if cellT v ∈ (runV R lo hi vs ([], [])).2 then 0 else cel R v.1 v.2.1)
theorem Zim.step (S : Zim R R' lo hi vs) {p q : List Vis} (e : vs = p ++ v :: q) : jud R' lo hi v.1 v.2.1 v.2.2 ((runV R lo hi p ([], [])).1, []) = ((jud R lo hi v.1 v.2.1 v.2.2 (runV R lo hi p ([], []))).1, ((jud R lo hi v.1 v.2.1 v.2.2 (runV R lo hi p ([], []))).2.1, [])) ∧ ((jud R lo hi v.1 v.2.1 v.2.2 (runV R lo hi p ([], []))).1 = true → cel R' v.1 v.2.1 = cel R v.1 v.2.1) := by
  have hc := S.ce v (by rw [e]; simp)
  generalize hs : runV R lo hi p ([], []) = s at *
  have hw : cellT v ∈ (runV R lo hi vs ([], [])).2 ↔ ¬ cel R v.1 v.2.1 = 0 ∧ ¬ gd R lo hi v s := by
    rw [run_bad]
    constructor
    · rintro (h | ⟨p', v', q', e', h1, h2, h3⟩)
      · cases h
      · obtain ⟨rfl, rfl⟩ := split_one (f := cellT) (e.symm.trans e') (by rw [← e]; exact S.nd) h3
        rw [hs] at h2
        exact ⟨h1, h2⟩
    · rintro ⟨h1, h2⟩
      exact .inr ⟨p, v, q, e, h1, by rw [hs]; exact h2, rfl⟩
  by_cases h0 : cel R v.1 v.2.1 = 0
  · have hc' : cel R' v.1 v.2.1 = 0 := by rw [hc]; split <;> first | rfl | exact h0
    rw [jd0 h0, jd0 hc']
    exact ⟨rfl, fun z => absurd z Bool.false_ne_true⟩
  · by_cases hg : gd R lo hi v s
    · have hc' : cel R' v.1 v.2.1 = cel R v.1 v.2.1 := by rw [hc, if_neg (fun z => (hw.mp z).2 hg)]
      have hg' : gd R' lo hi v (s.1, []) := by unfold gd at *; rw [hc']; exact hg
      rw [jd1 h0 hg, jd1 (by rw [hc']; exact h0) hg', hc']
      exact ⟨rfl, fun _ => rfl⟩
    · have hc' : cel R' v.1 v.2.1 = 0 := by rw [hc, if_pos (hw.mpr ⟨h0, hg⟩)]
      rw [jd2 h0 hg, jd0 hc']
      exact ⟨rfl, fun z => absurd z Bool.false_ne_true⟩
theorem Zim.take (S : Zim R R' lo hi vs) : ∀ k, runV R' lo hi (vs.take k) ([], []) = ((runV R lo hi (vs.take k) ([], [])).1, [])
  | 0 => rfl
  | k + 1 => by
    by_cases hk : k < vs.length
    · have e : vs = vs.take k ++ vs[k] :: vs.drop (k + 1) := by rw [← List.drop_eq_getElem_cons hk, List.take_append_drop]
      have h1 := (S.step e).1
      have h2 := Zim.take S k
      rw [List.take_succ, List.getElem?_eq_getElem hk, Option.toList_some, run_app, run_app, h2]
      show (jud R' lo hi _ _ _ _).2 = _
      rw [h1]
      rfl
    · have e1 : vs.take (k + 1) = vs.take k := by rw [List.take_of_length_le (by omega), List.take_of_length_le (by omega)]
      rw [e1]
      exact Zim.take S k
theorem Zim.pre (S : Zim R R' lo hi vs) {p q : List Vis} (e : vs = p ++ q) : runV R' lo hi p ([], []) = ((runV R lo hi p ([], [])).1, []) := by
  have := S.take p.length
  rw [e, List.take_left] at this
  exact this
end
/-! the files' visits -/
def v3 (R : List (List Int)) (f : Int) (k : Nat) : Vis := (10 + f, 4 + (k : Int), decide (8 * (k : Int) < (rowAt R (10 + f)).getD 1 0))
def v7 (R : List (List Int)) (f : Int) : Vis := (10 + f, 7, decide (24 < (rowAt R (10 + f)).getD 1 0))
def v8 (R : List (List Int)) (f : Int) (k : Nat) : Vis := ((rowAt R (10 + f)).getD 7 0, (k : Int), decide (8 * ((k : Int) + 3) < (rowAt R (10 + f)).getD 1 0))
def b3 (R : List (List Int)) (f : Int) : List Vis := (List.range 3).map (v3 R f)
def b8 (R : List (List Int)) (f : Int) : List Vis := (List.range 8).map (v8 R f)
def visF (R : List (List Int)) (lo hi f : Int) (s : St2) : List Vis := b3 R f ++ v7 R f :: (if (jm R lo hi f s).1 = true then b8 R f else [])
def visN (R : List (List Int)) (lo hi : Int) : Nat → List Vis
  | 0 => []
  | n + 1 => visN R lo hi n ++ (if kindM R (1 + (n : Int)) = 1 then visF R lo hi (1 + (n : Int)) (filesW R lo hi n) else [])
section
variable {R R' : List (List Int)} {lo hi f : Int} {s : St2}
theorem iterM_run {g : Nat → St2 → St2} {w : Nat → Vis} (h : ∀ k s, g k s = stp R lo hi s (w k)) : ∀ n, iterM g n s = runV R lo hi ((List.range n).map w) s
  | 0 => rfl
  | n + 1 => by
    rw [iterM_succ, iterM_run h n, List.range_succ, List.map_append, run_app, h]
    rfl
theorem jm_eq : jm R lo hi f s = jud R lo hi (v7 R f).1 (v7 R f).2.1 (v7 R f).2.2 (runV R lo hi (b3 R f) s) := by
  have e : iterM (j3 R lo hi f) 3 s = runV R lo hi ((List.range 3).map (v3 R f)) s := iterM_run (w := v3 R f) (fun k s => rfl) 3
  unfold jm b3
  rw [e]
  rfl
theorem fileW_run : fileW R lo hi f s = runV R lo hi (visF R lo hi f s) s := by
  unfold fileW visF
  have e : runV R lo hi (b3 R f ++ [v7 R f]) s = (jm R lo hi f s).2 := by rw [run_app, jm_eq]; rfl
  split
  · rw [show b3 R f ++ v7 R f :: b8 R f = (b3 R f ++ [v7 R f]) ++ b8 R f by simp, run_app, e]
    unfold b8
    exact iterM_run (w := v8 R f) (fun k s => rfl) 8
  · exact e.symm
theorem filesW_succ {n : Nat} : filesW R lo hi (n + 1) = fstep R lo hi n (filesW R lo hi n) := iterM_succ
theorem filesW_run : ∀ n, filesW R lo hi n = runV R lo hi (visN R lo hi n) ([], [])
  | 0 => rfl
  | n + 1 => by
    rw [filesW_succ]
    unfold visN fstep
    rw [run_app, ← filesW_run n]
    split
    · exact fileW_run
    · rfl
theorem visN_pre {n : Nat} : ∀ m, ∃ q, visN R lo hi (n + m) = visN R lo hi n ++ q
  | 0 => ⟨[], by simp⟩
  | m + 1 => by
    obtain ⟨q, h⟩ := visN_pre (n := n) m
    exact ⟨_, by rw [← Nat.add_assoc]; show visN R lo hi (n + m) ++ _ = _; rw [h, List.append_assoc]⟩
theorem mem_b3 {v : Vis} (h : v ∈ b3 R f) : v.1 = 10 + f ∧ 4 ≤ v.2.1 ∧ v.2.1 < 7 := by
  obtain ⟨k, hk, rfl⟩ := List.mem_map.mp h
  rw [List.mem_range] at hk
  exact ⟨rfl, by show 4 ≤ 4 + (k : Int); omega, by show 4 + (k : Int) < 7; omega⟩
theorem mem_b8 {v : Vis} (h : v ∈ b8 R f) : v.1 = (rowAt R (10 + f)).getD 7 0 ∧ 0 ≤ v.2.1 ∧ v.2.1 < 8 := by
  obtain ⟨k, hk, rfl⟩ := List.mem_map.mp h
  rw [List.mem_range] at hk
  exact ⟨rfl, by show 0 ≤ (k : Int); omega, by show (k : Int) < 8; omega⟩
theorem jm_t (h : (jm R lo hi f s).1 = true) : (lo ≤ cel R (10 + f) 7 ∧ cel R (10 + f) 7 < hi) ∧ ¬ cel R (10 + f) 7 ∈ s.1 ∧ cel R (10 + f) 7 ∈ (jm R lo hi f s).2.1 := by
  rw [jm_eq] at h ⊢
  by_cases h0 : cel R (v7 R f).1 (v7 R f).2.1 = 0
  · rw [jd0 h0] at h; exact absurd h Bool.false_ne_true
  · by_cases hg : gd R lo hi (v7 R f) (runV R lo hi (b3 R f) s)
    · rw [jd1 h0 hg]
      refine ⟨hg.2.1, fun z => hg.2.2 (run_mono z), ?_⟩
      exact List.mem_append_right _ (List.mem_singleton_self _)
    · rw [jd2 h0 hg] at h; exact absurd h Bool.false_ne_true
/-- where the visits lie -/
def VisIn (R : List (List Int)) (lo hi : Int) (n : Nat) (tk : List Int) (v : Vis) : Prop := (11 ≤ v.1 ∧ v.1 < 11 + n ∧ 4 ≤ v.2.1 ∧ v.2.1 < 8) ∨ (lo ≤ v.1 ∧ v.1 < hi ∧ 0 ≤ v.2.1 ∧ v.2.1 < 8 ∧ v.1 ∈ tk)
theorem nodup_map_of {α β : Type} {g : Nat → α} {f : α → β} (h : ∀ i j, f (g i) = f (g j) → i = j) : ∀ n, (((List.range n).map g).map f).Nodup
  | 0 => List.nodup_nil
  | n + 1 => by
    rw [List.range_succ, List.map_append, List.map_append, List.nodup_append]
    refine ⟨nodup_map_of h n, by simp, fun a ha b hb => ?_⟩
    obtain ⟨x, hx, rfl⟩ := List.mem_map.mp ha
    obtain ⟨i, hi, rfl⟩ := List.mem_map.mp hx
    rw [List.mem_range] at hi
    simp only [List.map_cons, List.map_nil, List.mem_singleton] at hb
    subst hb
    intro e
    have := h _ _ e
    omega
theorem cellT_iff {v w : Vis} : cellT v = cellT w ↔ v.1 = w.1 ∧ v.2.1 = w.2.1 := by unfold cellT; simp
theorem visF_in (hf : 1 ≤ f) {v : Vis} (h : v ∈ visF R lo hi f s) : (v.1 = 10 + f ∧ 4 ≤ v.2.1 ∧ v.2.1 < 8) ∨ ((jm R lo hi f s).1 = true ∧ v.1 = cel R (10 + f) 7 ∧ 0 ≤ v.2.1 ∧ v.2.1 < 8) := by
  unfold visF at h
  rcases List.mem_append.mp h with h | h
  · have := mem_b3 h; exact .inl ⟨this.1, this.2.1, by omega⟩
  · rcases List.mem_cons.mp h with h | h
    · subst h; exact .inl ⟨rfl, by show (4 : Int) ≤ 7; omega, by show (7 : Int) < 8; omega⟩
    · split at h
      · rename_i hj
        have := mem_b8 h
        exact .inr ⟨hj, this⟩
      · cases h
theorem visF_nd (hf : 10 + f < lo) : ((visF R lo hi f s).map cellT).Nodup := by
  have h3 : ((b3 R f).map cellT).Nodup := nodup_map_of (fun i j e => by have := (cellT_iff.mp e).2; change 4 + (i : Int) = 4 + (j : Int) at this; omega) 3
  have h8 : ((b8 R f).map cellT).Nodup := nodup_map_of (fun i j e => by have := (cellT_iff.mp e).2; change (i : Int) = (j : Int) at this; omega) 8
  unfold visF
  rw [List.map_append, List.nodup_append]
  refine ⟨h3, ?_, ?_⟩
  · rw [List.map_cons, List.nodup_cons]
    refine ⟨?_, ?_⟩
    · intro h
      obtain ⟨w, hw, e⟩ := List.mem_map.mp h
      split at hw
      · rename_i hj
        have h1 := mem_b8 hw
        have h2 := (jm_t hj).1
        have h4 := (cellT_iff.mp e).1
        change w.1 = 10 + f at h4
        have h5 : w.1 = cel R (10 + f) 7 := h1.1
        omega
      · cases hw
    · split
      · exact h8
      · exact List.nodup_nil
  · intro a ha b hb e
    obtain ⟨v, hv, rfl⟩ := List.mem_map.mp ha
    obtain ⟨w, hw, rfl⟩ := List.mem_map.mp hb
    have h1 := mem_b3 hv
    have h4 := cellT_iff.mp e
    rcases List.mem_cons.mp hw with hw | hw
    · subst hw
      have h5 := h4.2
      change v.2.1 = 7 at h5
      omega
    · split at hw
      · rename_i hj
        have h5 : w.1 = cel R (10 + f) 7 := (mem_b8 hw).1
        have h2 := (jm_t hj).1
        omega
      · cases hw
theorem fileW_mono {x : Int} (h : x ∈ s.1) : x ∈ (fileW R lo hi f s).1 := by rw [fileW_run]; exact run_mono h
theorem fstep_mono {x : Int} {n : Nat} (h : x ∈ s.1) : x ∈ (fstep R lo hi n s).1 := by
  unfold fstep
  split
  · exact fileW_mono h
  · exact h
theorem fileW_more (h : (jm R lo hi f s).1 = true) : cel R (10 + f) 7 ∈ (fileW R lo hi f s).1 := by
  rw [fileW_run]
  unfold visF
  rw [if_pos h, show b3 R f ++ v7 R f :: b8 R f = (b3 R f ++ [v7 R f]) ++ b8 R f by simp, run_app]
  refine run_mono ?_
  have e : runV R lo hi (b3 R f ++ [v7 R f]) s = (jm R lo hi f s).2 := by rw [run_app, jm_eq]; rfl
  rw [e]
  exact (jm_t h).2.2
theorem visN_ok : ∀ n : Nat, 11 + (n : Int) ≤ lo → (∀ v ∈ visN R lo hi n, VisIn R lo hi n (filesW R lo hi n).1 v) ∧ ((visN R lo hi n).map cellT).Nodup
  | 0, _ => ⟨fun v h => (by cases h), List.nodup_nil⟩
  | n + 1, hl => by
    obtain ⟨h1, h2⟩ := visN_ok n (by omega)
    unfold visN
    rw [filesW_succ]
    unfold fstep
    split
    · rename_i hk
      refine ⟨fun v hv => ?_, ?_⟩
      · rcases List.mem_append.mp hv with hv | hv
        · rcases h1 v hv with z | z
          · exact .inl ⟨z.1, by omega, z.2.2⟩
          · exact .inr ⟨z.1, z.2.1, z.2.2.1, z.2.2.2.1, fileW_mono z.2.2.2.2⟩
        · rcases visF_in (by omega) hv with z | ⟨zj, z⟩
          · exact .inl ⟨by omega, by omega, z.2⟩
          · have h3 := (jm_t zj).1
            exact .inr ⟨by omega, by omega, z.2.1, z.2.2, by rw [z.1]; exact fileW_more zj⟩
      · rw [List.map_append, List.nodup_append]
        refine ⟨h2, visF_nd (by omega), fun a ha b hb e => ?_⟩
        obtain ⟨v, hv, rfl⟩ := List.mem_map.mp ha
        obtain ⟨w, hw, rfl⟩ := List.mem_map.mp hb
        have h4 := cellT_iff.mp e
        rcases visF_in (by omega) hw with z | ⟨zj, z⟩
        · rcases h1 v hv with y | y <;> omega
        · have h3 := jm_t zj
          rcases h1 v hv with y | y
          · omega
          · exact h3.2.1 (by rw [← z.1, ← h4.1]; exact y.2.2.2.2)
    · refine ⟨fun v hv => ?_, by simpa using h2⟩
      rcases h1 v (by simpa using hv) with z | z
      · exact .inl ⟨z.1, by omega, z.2.2⟩
      · exact .inr z
end
theorem pieces_again {R R' : List (List Int)} {F lo hi : Int} {N : Nat} (hN : (N : Int) < F) (hl : 11 + (N : Int) ≤ lo) (hk : ∀ f, 0 < f → f < F → cel R' (10 + f) 0 = cel R (10 + f) 0) (hs : ∀ f, 0 < f → f < F → cel R' (10 + f) 1 = cel R (10 + f) 1) (S : Zim R R' lo hi (visN R lo hi N)) : ∀ n, n ≤ N → visN R' lo hi n = visN R lo hi n ∧ filesW R' lo hi n = ((filesW R lo hi n).1, [])
  | 0, _ => ⟨rfl, rfl⟩
  | n + 1, hn => by
    obtain ⟨ih1, ih2⟩ := pieces_again hN hl hk hs S n (by omega)
    obtain ⟨q, hq⟩ := visN_pre (R := R) (lo := lo) (hi := hi) (n := n + 1) (N - (n + 1))
    rw [show n + 1 + (N - (n + 1)) = N by omega] at hq
    have hv : visN R' lo hi (n + 1) = visN R lo hi (n + 1) := by
      have hsz : (rowAt R' (10 + (1 + (n : Int)))).getD 1 0 = (rowAt R (10 + (1 + (n : Int)))).getD 1 0 := hs (1 + (n : Int)) (by omega) (by omega)
      have hkd : kindM R' (1 + (n : Int)) = kindM R (1 + (n : Int)) := hk (1 + (n : Int)) (by omega) (by omega)
      unfold visN
      rw [ih1, hkd, ih2]
      congr 1
      split
      · rename_i hk1
        have e3 : b3 R' (1 + (n : Int)) = b3 R (1 + (n : Int)) := by unfold b3 v3; rw [hsz]
        have e7 : v7 R' (1 + (n : Int)) = v7 R (1 + (n : Int)) := by unfold v7; rw [hsz]
        have hq' : visN R lo hi N = (visN R lo hi n ++ b3 R (1 + (n : Int))) ++ v7 R (1 + (n : Int)) :: ((if (jm R lo hi (1 + (n : Int)) (filesW R lo hi n)).1 = true then b8 R (1 + (n : Int)) else []) ++ q) := by
          rw [hq]
          show (visN R lo hi n ++ _) ++ q = _
          rw [if_pos hk1]
          unfold visF
          simp
        have h1 := S.step hq'
        have h2 : runV R' lo hi (b3 R (1 + (n : Int))) ((filesW R lo hi n).1, []) = ((runV R lo hi (visN R lo hi n ++ b3 R (1 + (n : Int))) ([], [])).1, []) := by
          rw [← ih2, filesW_run (R := R') n, ih1, ← run_app]
          exact S.pre hq'
        have ej : (jm R' lo hi (1 + (n : Int)) ((filesW R lo hi n).1, [])).1 = (jm R lo hi (1 + (n : Int)) (filesW R lo hi n)).1 := by
          rw [jm_eq, jm_eq, e3, e7, h2, h1.1, run_app, ← filesW_run (R := R) n]
        unfold visF
        rw [e3, e7, ej]
        congr 2
        split
        · rename_i hj
          have hm : cel R' (10 + (1 + (n : Int))) 7 = cel R (10 + (1 + (n : Int))) 7 := h1.2 (by rw [run_app, ← filesW_run (R := R) n, ← jm_eq]; exact hj)
          have hm' : (rowAt R' (10 + (1 + (n : Int)))).getD 7 0 = (rowAt R (10 + (1 + (n : Int)))).getD 7 0 := hm
          unfold b8 v8
          rw [hsz, hm']
        · rfl
      · rfl
    refine ⟨hv, ?_⟩
    rw [filesW_run, hv, filesW_run (R := R)]
    exact S.pre hq
def pcW (F E B : Int) (R : List (List Int)) : List (List Int) := (filesW R (10 + F + E) (10 + F + E + B) (F - 1).toNat).2
theorem pieces_in {F E B : Int} {R : List (List Int)} (hb : inB F E B) : ∀ t ∈ pcW F E B R, InT (10 + F + E + B) t ∧ t.getD 2 0 = 0 ∧ ((10 < t.getD 0 0 ∧ t.getD 0 0 < 10 + F ∧ 4 ≤ t.getD 1 0) ∨ 10 + F + E ≤ t.getD 0 0) ∧ ∃ v ∈ visN R (10 + F + E) (10 + F + E + B) (F - 1).toNat, t = cellT v := fun t ht => by
  unfold inB at hb
  unfold pcW at ht
  rw [filesW_run, run_bad] at ht
  rcases ht with h | ⟨p, v, q, e, _, _, rfl⟩
  · cases h
  · have hv : v ∈ visN R (10 + F + E) (10 + F + E + B) (F - 1).toNat := by rw [e]; simp
    have h1 := (visN_ok (R := R) (lo := 10 + F + E) (hi := 10 + F + E + B) (F - 1).toNat (by omega)).1 v hv
    refine ⟨?_, rfl, ?_, v, hv, rfl⟩
    · unfold InT cellT
      simp only [List.getD_cons_zero, List.getD_cons_succ]
      rcases h1 with z | z <;> omega
    · unfold cellT
      simp only [List.getD_cons_zero, List.getD_cons_succ]
      rcases h1 with z | z <;> omega
/-- after the clause: the same blocks are taken, nothing is wrong -/
theorem pieces_fix {F E B : Int} {R : List (List Int)} (hb : inB F E B) (h : Sh (10 + F + E + B) R) : filesW (putsT R (pcW F E B R)) (10 + F + E) (10 + F + E + B) (F - 1).toNat = ((filesW R (10 + F + E) (10 + F + E + B) (F - 1).toNat).1, []) := by
  have hin := pieces_in (R := R) hb
  have hb' := hb
  unfold inB at hb'
  have hvn := visN_ok (R := R) (lo := 10 + F + E) (hi := 10 + F + E + B) (F - 1).toNat (by omega)
  refine (pieces_again (F := F) (by omega) (by omega) (fun f h0 h1 => ?_) (fun f h0 h1 => ?_) ⟨hvn.2, fun v hv => ?_⟩ _ (Nat.le_refl _)).2
  · refine cel_puts_no (by omega) (by omega) h (fun t ht => (hin t ht).1) fun t ht z => ?_
    have := (hin t ht).2.2.1
    omega
  · refine cel_puts_no (by omega) (by omega) h (fun t ht => (hin t ht).1) fun t ht z => ?_
    have := (hin t ht).2.2.1
    omega
  · have hv1 := hvn.1 v hv
    have hv0 : 0 ≤ v.1 ∧ 0 ≤ v.2.1 := by rcases hv1 with z | z <;> omega
    rw [← filesW_run]
    split
    · rename_i hw
      exact cel_puts_eq hv0.1 hv0.2 h (fun t ht => (hin t ht).1) (fun t ht _ _ => (hin t ht).2.1) (.inl ⟨cellT v, hw, rfl, rfl⟩)
    · rename_i hw
      refine cel_puts_no hv0.1 hv0.2 h (fun t ht => (hin t ht).1) fun t ht z => hw ?_
      obtain ⟨w, _, rfl⟩ := (hin t ht).2.2.2
      have e : cellT w = cellT v := cellT_iff.mpr z
      rw [← e]
      exact ht
/-! what the walk of the pieces reads -/
structure Ag (F E B : Int) (R R' : List (List Int)) : Prop where
  rcd : ∀ f a, 0 < f → f < F → (a = 0 ∨ a = 1 ∨ (4 ≤ a ∧ a < 8)) → cel R' (10 + f) a = cel R (10 + f) a
  dat : ∀ b a, 10 + F + E ≤ b → b < 10 + F + E + B → 0 ≤ a → a < 8 → cel R' b a = cel R b a
theorem run_congr {R R' : List (List Int)} {lo hi : Int} : ∀ {vs : List Vis} {s : St2}, (∀ v ∈ vs, cel R' v.1 v.2.1 = cel R v.1 v.2.1) → runV R' lo hi vs s = runV R lo hi vs s
  | [], _, _ => rfl
  | v :: vs, s, h => by
    have h1 : (rowAt R' v.1).getD v.2.1.toNat 0 = (rowAt R v.1).getD v.2.1.toNat 0 := h v List.mem_cons_self
    have e : stp R' lo hi s v = stp R lo hi s v := by unfold stp jud; rw [h1]
    rw [show runV R' lo hi (v :: vs) s = runV R' lo hi vs (stp R' lo hi s v) from rfl, e, run_congr (vs := vs) fun w hw => h w (List.mem_cons_of_mem _ hw)]
    rfl
theorem files_congr {F E B : Int} {R R' : List (List Int)} (h : Ag F E B R R') (hE : 0 ≤ E) : ∀ n : Nat, (n : Int) < F → filesW R' (10 + F + E) (10 + F + E + B) n = filesW R (10 + F + E) (10 + F + E + B) n
  | 0, _ => rfl
  | n + 1, hn => by
    have ih := files_congr h hE n (by omega)
    have hkd : kindM R' (1 + (n : Int)) = kindM R (1 + (n : Int)) := h.rcd (1 + (n : Int)) 0 (by omega) (by omega) (.inl rfl)
    have hsz : (rowAt R' (10 + (1 + (n : Int)))).getD 1 0 = (rowAt R (10 + (1 + (n : Int)))).getD 1 0 := h.rcd (1 + (n : Int)) 1 (by omega) (by omega) (.inr (.inl rfl))
    have hm' : (rowAt R' (10 + (1 + (n : Int)))).getD 7 0 = (rowAt R (10 + (1 + (n : Int)))).getD 7 0 := h.rcd (1 + (n : Int)) 7 (by omega) (by omega) (.inr (.inr (by omega)))
    rw [filesW_succ, filesW_succ, ih]
    unfold fstep
    rw [hkd]
    split
    · rw [fileW_run, fileW_run]
      have e3 : b3 R' (1 + (n : Int)) = b3 R (1 + (n : Int)) := by unfold b3 v3; rw [hsz]
      have e7 : v7 R' (1 + (n : Int)) = v7 R (1 + (n : Int)) := by unfold v7; rw [hsz]
      have c3 : ∀ v ∈ b3 R (1 + (n : Int)), cel R' v.1 v.2.1 = cel R v.1 v.2.1 := fun v hv => by
        have := mem_b3 hv
        rw [this.1]
        exact h.rcd _ _ (by omega) (by omega) (.inr (.inr (by omega)))
      have c7 : cel R' (v7 R (1 + (n : Int))).1 (v7 R (1 + (n : Int))).2.1 = cel R (v7 R (1 + (n : Int))).1 (v7 R (1 + (n : Int))).2.1 := hm'
      have c7' : (rowAt R' (v7 R (1 + (n : Int))).1).getD (v7 R (1 + (n : Int))).2.1.toNat 0 = (rowAt R (v7 R (1 + (n : Int))).1).getD (v7 R (1 + (n : Int))).2.1.toNat 0 := c7
      have ej : jm R' (10 + F + E) (10 + F + E + B) (1 + (n : Int)) (filesW R (10 + F + E) (10 + F + E + B) n) = jm R (10 + F + E) (10 + F + E + B) (1 + (n : Int)) (filesW R (10 + F + E) (10 + F + E + B) n) := by
        rw [jm_eq, jm_eq, e3, e7, run_congr c3]
        unfold jud
        rw [c7']
      have ev : visF R' (10 + F + E) (10 + F + E + B) (1 + (n : Int)) (filesW R (10 + F + E) (10 + F + E + B) n) = visF R (10 + F + E) (10 + F + E + B) (1 + (n : Int)) (filesW R (10 + F + E) (10 + F + E + B) n) := by
        have e8 : b8 R' (1 + (n : Int)) = b8 R (1 + (n : Int)) := by unfold b8 v8; rw [hsz, hm']
        unfold visF
        rw [e3, e7, ej, e8]
      rw [ev]
      refine run_congr fun v hv => ?_
      rcases visF_in (by omega) hv with z | ⟨zj, z⟩
      · rw [z.1]
        exact h.rcd _ _ (by omega) (by omega) (.inr (.inr (by omega)))
      · have := (jm_t zj).1
        exact h.dat _ _ (by omega) (by omega) (by omega) (by omega)
    · rfl
/-! slots -/
section
variable {F E n s : Int} {R R' : List (List Int)}
theorem slG_cel (h : Sh n R) (h0 : 0 ≤ 10 + F + s / 2) (h1 : 10 + F + s / 2 < n) {j : Nat} (hj : j < 4) : slG F R s j = cel R (10 + F + s / 2) (s % 2 * 4 + j) := by
  unfold slG slotM cel
  rw [cutG_lohi (by omega) (by omega), List.getD_eq_getElem?_getD, List.getD_eq_getElem?_getD, List.getElem?_take, if_pos (by omega), List.getElem?_drop]
  congr 2
  omega
/-- the slots and the kinds that two volumes share -/
structure SlE (F E : Int) (R R' : List (List Int)) : Prop where
  kd : ∀ f, 0 < f → f < F → kindM R' f = kindM R f
  s3 : ∀ s : Nat, (s : Int) < 2 * E → ∀ j, 0 < j → j < 4 → slG F R' s j = slG F R s j
theorem SlE.fold (h : SlE F E R R') {f : Int} : isFoldM F R' f ↔ isFoldM F R f := by
  unfold isFoldM
  refine or_congr Iff.rfl ⟨fun z => ⟨z.1, z.2.1, by rw [← h.kd f z.1 z.2.1]; exact z.2.2⟩, fun z => ⟨z.1, z.2.1, by rw [h.kd f z.1 z.2.1]; exact z.2.2⟩⟩
theorem SlE.file (h : SlE F E R R') {f : Int} : isFileM F R' f ↔ isFileM F R f := by
  unfold isFileM
  exact ⟨fun z => ⟨z.1, z.2.1, by rw [← h.kd f z.1 z.2.1]; exact z.2.2⟩, fun z => ⟨z.1, z.2.1, by rw [h.kd f z.1 z.2.1]; exact z.2.2⟩⟩
theorem SlE.right (h : SlE F E R R') {fo na fi : Int} {rs : List (List Int)} : rightM F R' fo na fi rs ↔ rightM F R fo na fi rs := by
  unfold rightM clash
  rw [h.fold, h.file, h.fold]
theorem SlE.ok (h : SlE F E R R') {s : Nat} (hs : (s : Int) < 2 * E) {rs : List (List Int)} : okS F R' s rs ↔ slG F R' s 0 = 1 ∧ rightM F R (slG F R s 1) (slG F R s 2) (slG F R s 3) rs := by
  unfold okS
  rw [h.s3 s hs 1 (by omega) (by omega), h.s3 s hs 2 (by omega) (by omega), h.s3 s hs 3 (by omega) (by omega), h.right]
/-- every slot that isn't empty is right -/
def NmP (F E : Int) (R : List (List Int)) : Prop := ∀ s : Nat, (s : Int) < 2 * E → slG F R s 0 = 0 ∨ okS F R s (rightsM F R s)
theorem mem_names {t : List Int} : t ∈ namesW F E R ↔ ∃ s : Nat, (s : Int) < 2 * E ∧ ¬ slG F R s 0 = 0 ∧ ¬ okS F R s (rightsM F R s) ∧ t = [10 + F + (s : Int) / 2, (s : Int) % 2 * 4, 0] := by
  unfold namesW
  rw [mem_accN]
  constructor
  · rintro ⟨s, hs, h⟩
    unfold wnst at h
    split at h
    · rename_i hc
      exact ⟨s, by omega, hc.1, hc.2, List.mem_singleton.mp h⟩
    · cases h
  · rintro ⟨s, hs, h1, h2, rfl⟩
    refine ⟨s, by omega, ?_⟩
    unfold wnst
    rw [if_pos ⟨h1, h2⟩]
    exact List.mem_singleton_self _
theorem names_nil (h : NmP F E R) : namesW F E R = [] := nil_of fun t ht => by
  obtain ⟨s, hs, h1, h2, _⟩ := mem_names.mp ht
  rcases h s hs with z | z
  · exact h1 z
  · exact h2 z
/-- writes of empty slots -/
def SlW0 (F E : Int) (ts : List (List Int)) (P : Nat → Prop) : Prop := (∀ t ∈ ts, ∃ s : Nat, (s : Int) < 2 * E ∧ P s ∧ t = [10 + F + (s : Int) / 2, (s : Int) % 2 * 4, 0]) ∧ ∀ s : Nat, (s : Int) < 2 * E → P s → [10 + F + (s : Int) / 2, (s : Int) % 2 * 4, 0] ∈ ts
theorem SlW0.inT {ts : List (List Int)} {P : Nat → Prop} (w : SlW0 F E ts P) (hF : 0 ≤ F) (hn : 10 + F + E ≤ n) : ∀ t ∈ ts, InT n t ∧ t.getD 2 0 = 0 ∧ 10 + F ≤ t.getD 0 0 ∧ t.getD 0 0 < 10 + F + E := fun t ht => by
  obtain ⟨s, h1, _, rfl⟩ := w.1 t ht
  refine ⟨?_, rfl, ?_, ?_⟩
  · unfold InT
    simp only [List.getD_cons_zero, List.getD_cons_succ]
    omega
  · simp only [List.getD_cons_zero]
    omega
  · simp only [List.getD_cons_zero]
    omega
theorem SlW0.eq {ts : List (List Int)} {P : Nat → Prop} (w : SlW0 F E ts P) (h : Sh n R) (hF : 0 ≤ F) (hn : 10 + F + E ≤ n) : SlE F E R (putsT R ts) := by
  have hin := w.inT (n := n) hF hn
  refine ⟨fun f h0 h1 => ?_, fun s hs j h0 h1 => ?_⟩
  · exact cel_puts_no (a := 0) (by omega) (by omega) h (fun t ht => (hin t ht).1) fun t ht z => by have := (hin t ht).2.2; omega
  · rw [slG_cel (h.puts fun t ht => (hin t ht).1) (by omega) (by omega) h1, slG_cel h (by omega) (by omega) h1]
    refine cel_puts_no (by omega) (by omega) h (fun t ht => (hin t ht).1) fun t ht z => ?_
    obtain ⟨s', _, _, rfl⟩ := w.1 t ht
    simp only [List.getD_cons_zero, List.getD_cons_succ] at z
    omega
theorem SlW0.z {ts : List (List Int)} {P : Nat → Prop} (w : SlW0 F E ts P) (h : Sh n R) (hF : 0 ≤ F) (hn : 10 + F + E ≤ n) {s : Nat} (hs : (s : Int) < 2 * E) (hp : P s) : slG F (putsT R ts) s 0 = 0 := by
  have hin := w.inT (n := n) hF hn
  rw [slG_cel (h.puts fun t ht => (hin t ht).1) (by omega) (by omega) (by omega)]
  exact cel_puts_eq (by omega) (by omega) h (fun t ht => (hin t ht).1) (fun t ht _ _ => (hin t ht).2.1) (.inl ⟨_, w.2 s hs hp, rfl, by simp⟩)
theorem SlW0.k {ts : List (List Int)} {P : Nat → Prop} (w : SlW0 F E ts P) (h : Sh n R) (hF : 0 ≤ F) (hn : 10 + F + E ≤ n) {s : Nat} (hs : (s : Int) < 2 * E) (hp : ¬ P s) : slG F (putsT R ts) s 0 = slG F R s 0 := by
  have hin := w.inT (n := n) hF hn
  rw [slG_cel (h.puts fun t ht => (hin t ht).1) (by omega) (by omega) (by omega), slG_cel h (by omega) (by omega) (by omega)]
  refine cel_puts_no (by omega) (by omega) h (fun t ht => (hin t ht).1) fun t ht z => ?_
  obtain ⟨s', _, hp', rfl⟩ := w.1 t ht
  simp only [List.getD_cons_zero, List.getD_cons_succ] at z
  have : s' = s := by omega
  subst this
  exact hp hp'
theorem names_w0 : SlW0 F E (namesW F E R) (fun s => ¬ slG F R s 0 = 0 ∧ ¬ okS F R s (rightsM F R s)) := ⟨fun t ht => by
  obtain ⟨s, h1, h2, h3, e⟩ := mem_names.mp ht
  exact ⟨s, h1, ⟨h2, h3⟩, e⟩, fun s hs hp => mem_names.mpr ⟨s, hs, hp.1, hp.2, rfl⟩⟩
theorem names_rights (h : Sh n R) (hF : 0 ≤ F) (hn : 10 + F + E ≤ n) : ∀ m : Nat, (m : Int) ≤ 2 * E → rightsM F (putsT R (namesW F E R)) m = rightsM F R m
  | 0, _ => rfl
  | m + 1, hm => by
    have ih := names_rights h hF hn m (by omega)
    have se := (names_w0 (F := F) (E := E) (R := R)).eq h hF hn
    rw [rightsM_succ, rightsM_succ, ih]
    have hk : okS F (putsT R (namesW F E R)) m (rightsM F R m) ↔ okS F R m (rightsM F R m) := by
      rw [se.ok (by omega)]
      by_cases hw : ¬ slG F R m 0 = 0 ∧ ¬ okS F R m (rightsM F R m)
      · rw [names_w0.z h hF hn (by omega) hw]
        exact ⟨fun z => absurd z.1 (by omega), fun z => absurd z hw.2⟩
      · rw [names_w0.k h hF hn (by omega) hw]
        exact Iff.rfl
    unfold rstep
    by_cases hc : okS F R m (rightsM F R m)
    · rw [if_pos (hk.mpr hc), if_pos hc, se.s3 m (by omega) 1 (by omega) (by omega), se.s3 m (by omega) 2 (by omega) (by omega), se.s3 m (by omega) 3 (by omega) (by omega)]
    · rw [if_neg (fun z => hc (hk.mp z)), if_neg hc]
theorem names_fix (h : Sh n R) (hF : 0 ≤ F) (hn : 10 + F + E ≤ n) : NmP F E (putsT R (namesW F E R)) := fun s hs => by
  have se := (names_w0 (F := F) (E := E) (R := R)).eq h hF hn
  rw [names_rights h hF hn s (by omega)]
  by_cases hw : ¬ slG F R s 0 = 0 ∧ ¬ okS F R s (rightsM F R s)
  · exact .inl (names_w0.z h hF hn hs hw)
  · rw [se.ok hs, names_w0.k h hF hn hs hw]
    by_cases h0 : slG F R s 0 = 0
    · exact .inl h0
    · exact .inr (Classical.byContradiction fun z => hw ⟨h0, z⟩)
/-! rings -/
theorem look_of {ups : UpsT} {x : Int} {r : Int × Int} (h : UpsOk F E ups) (hm : (x, r) ∈ ups) : keyB ups x = true ∧ gM ups x = r.1 ∧ sM ups x = r.2 := by
  have hk : keyB ups x = true := keyB_iff.mpr (List.mem_map.mpr ⟨_, hm, rfl⟩)
  have h2 := key_mem hk
  rcases pw_mem h.pw hm h2 with e | e | e
  · have e' : r = (gM ups x, sM ups x) := congrArg Prod.snd e
    exact ⟨hk, by rw [e'], by rw [e']⟩
  · exact absurd rfl e.1
  · exact absurd rfl e.1
theorem itg_same {g g' : Int → Int} {x : Int} : ∀ {n : Nat}, (∀ i, i < n → g' (itg g' i x) = g (itg g' i x)) → itg g' n x = itg g n x
  | 0, _ => rfl
  | n + 1, h => by
    have ih := itg_same (n := n) fun i hi => h i (by omega)
    show g' (itg g' n x) = g (itg g n x)
    rw [← ih]
    exact h n (by omega)
/-- fewer ways up: no new rings -/
theorem ring_sub {ups ups' : UpsT} (h : UpsOk F E ups) (h' : UpsOk F E ups') (hs : ∀ e ∈ ups', e ∈ ups) {x : Int} (hx : x ∈ ringK ups') : x ∈ ringK ups ∧ (x, gM ups x, sM ups x) ∈ ups' := by
  obtain ⟨hk, m, hp, hmin⟩ := ringK_mem.mp hx
  have hkr := h'.key hk
  have same : ∀ y, keyB ups' y = true → keyB ups y = true ∧ gM ups y = gM ups' y ∧ sM ups y = sM ups' y := fun y hy => look_of h (hs _ (key_mem hy))
  have hky := hp.keys (Ky := fun y => keyB ups' y = true) (by omega) h'.m1 (fun y hy => gM_no hy)
  have hit : ∀ i, i ≤ m → itg (gM ups') i x = itg (gM ups) i x := fun i hi => itg_same fun j hj => ((same _ (hky j (by omega))).2.1).symm
  refine ⟨ringK_mem.mpr ⟨(same x hk).1, m, ⟨hp.1, by rw [← hit m (Nat.le_refl _)]; exact hp.2.1, fun i h1 h2 => by rw [← hit i (by omega)]; exact hp.2.2 i h1 h2⟩, fun y hy => ?_⟩, ?_⟩
  · obtain ⟨i, hi, rfl⟩ := mem_ringL.mp hy
    rw [← hit i (by omega)]
    exact hmin _ (mem_ringL.mpr ⟨i, hi, rfl⟩)
  · rw [(same x hk).2.1, (same x hk).2.2]
    exact key_mem hk
noncomputable def ringTs2 (F E : Int) (R : List (List Int)) : List (List Int) := ringW F (upsM2 F R (2 * E).toNat)
/-- the slots that the clause empties -/
def RgS (F E : Int) (R : List (List Int)) (s : Nat) : Prop := ∃ x ∈ ringK (upsM2 F R (2 * E).toNat), sM (upsM2 F R (2 * E).toNat) x = s
theorem ring_w0 (hF : 2 ≤ F) : SlW0 F E (ringTs2 F E R) (RgS F E R) := by
  have hok := upsM2_ok (F := F) (E := E) (R := R) hF
  refine ⟨fun t ht => ?_, fun s hs hp => ?_⟩
  · obtain ⟨x, hx, rfl⟩ := List.mem_map.mp ht
    have hk := hok.key (ringK_mem.mp hx).1
    refine ⟨(sM (upsM2 F R (2 * E).toNat) x).toNat, by omega, ⟨x, hx, by omega⟩, ?_⟩
    unfold toldOf
    rw [show (((sM (upsM2 F R (2 * E).toNat) x).toNat : Nat) : Int) = sM (upsM2 F R (2 * E).toNat) x by omega]
  · obtain ⟨x, hx, e⟩ := hp
    refine List.mem_map.mpr ⟨x, hx, ?_⟩
    rw [e]
    rfl
open Classical in
theorem ring_rights (h : Sh n R) (hF : 2 ≤ F) (hn : 10 + F + E ≤ n) (hnm : NmP F E R) : ∀ m : Nat, (m : Int) ≤ 2 * E → rightsM F (putsT R (ringTs2 F E R)) m = (rightsM F R m).filter fun r => decide (¬ RgS F E R (r.getD 0 0).toNat)
  | 0, _ => rfl
  | m + 1, hm => by
    have ih := ring_rights h hF hn hnm m (by omega)
    have w0 := ring_w0 (F := F) (E := E) (R := R) hF
    have se := w0.eq h (by omega) hn
    rw [rightsM_succ, rightsM_succ, ih]
    have e0 : ∀ a b c : Int, ([(m : Int), a, b, c] : List Int).getD 0 0 = m := fun _ _ _ => rfl
    unfold rstep
    by_cases hr : RgS F E R m
    · rw [if_neg (fun z => by have := z.1; rw [w0.z h (by omega) hn (by omega) hr] at this; omega)]
      split
      · rw [List.filter_append, List.filter_cons_of_neg (by rw [e0, Int.toNat_natCast]; simpa using hr)]
        simp
      · rfl
    · have hsl := w0.k h (by omega) hn (s := m) (by omega) hr
      rcases hnm m (by omega) with z | z
      · rw [if_neg (fun y => by have := y.1; rw [hsl, z] at this; omega), if_neg (fun y => by have := y.1; rw [z] at this; omega)]
      · rw [if_pos z, if_pos ((se.ok (by omega)).mpr ⟨by rw [hsl]; exact z.1, z.2.1, z.2.2.1, z.2.2.2.1, z.2.2.2.2.1, fun r hr2 => z.2.2.2.2.2 r (List.mem_filter.mp hr2).1⟩), List.filter_append, List.filter_cons_of_pos (by rw [e0, Int.toNat_natCast]; simpa using hr), se.s3 m (by omega) 1 (by omega) (by omega), se.s3 m (by omega) 2 (by omega) (by omega), se.s3 m (by omega) 3 (by omega) (by omega)]
        rfl
theorem ring_fix (h : Sh n R) (hF : 2 ≤ F) (hn : 10 + F + E ≤ n) (hnm : NmP F E R) : NmP F E (putsT R (ringTs2 F E R)) ∧ ringTs2 F E (putsT R (ringTs2 F E R)) = [] := by
  have w0 := ring_w0 (F := F) (E := E) (R := R) hF
  have se := w0.eq h (by omega) hn
  refine ⟨fun s hs => ?_, ?_⟩
  · by_cases hr : RgS F E R s
    · exact .inl (w0.z h (by omega) hn hs hr)
    · rw [se.ok hs, w0.k h (by omega) hn hs hr]
      rcases hnm s hs with z | z
      · exact .inl z
      · rw [ring_rights h hF hn hnm s (by omega)]
        exact .inr ⟨z.1, z.2.1, z.2.2.1, z.2.2.2.1, z.2.2.2.2.1, fun r hr2 => z.2.2.2.2.2 r (List.mem_filter.mp hr2).1⟩
  · have hsub : ∀ e ∈ upsM2 F (putsT R (ringTs2 F E R)) (2 * E).toNat, e ∈ upsM2 F R (2 * E).toNat ∧ ¬ RgS F E R e.2.2.toNat := fun e he => by
      unfold upsM2 at he
      obtain ⟨r, h1, h2, rfl⟩ := mem_upsR.mp he
      rcases Int.lt_or_le E 0 with hE | hE
      · rw [show (2 * E).toNat = 0 by omega] at h1
        exact absurd h1 (by simp [rightsM, iterM])
      rw [ring_rights h hF hn hnm _ (by omega)] at h1
      have h3 := List.mem_filter.mp h1
      refine ⟨mem_upsR.mpr ⟨r, h3.1, ?_, rfl⟩, by simpa using h3.2⟩
      unfold foldB at h2 ⊢
      rw [decide_eq_true_iff] at h2 ⊢
      exact se.fold.mp h2
    unfold ringTs2 ringW
    rw [List.map_eq_nil_iff]
    refine List.eq_nil_iff_forall_not_mem.mpr fun x hx => ?_
    obtain ⟨h1, h2⟩ := ring_sub (F := F) (E := E) (upsM2_ok hF) (upsM2_ok hF) (fun e he => (hsub e he).1) hx
    have h3 := (hsub _ h2).2
    have h4 := (upsM2_ok (F := F) (E := E) (R := R) hF).key (ringK_mem.mp h1).1
    exact h3 ⟨x, h1, by show _ = (((sM _ x).toNat : Nat) : Int); omega⟩
end
/-! what is kept -/
section
variable {F E B n : Int} {R R' : List (List Int)} {ts : List (List Int)} {P : Int → Int → Prop}
/-- the writes' places -/
def Reg (n : Int) (ts : List (List Int)) (P : Int → Int → Prop) : Prop := ∀ t ∈ ts, InT n t ∧ P (t.getD 0 0) (t.getD 1 0)
theorem Reg.keep (h : Sh n R) (ht : Reg n ts P) {b a : Int} (hb : 0 ≤ b) (ha : 0 ≤ a) (hn : ¬ P b a) : cel (putsT R ts) b a = cel R b a := cel_puts_no hb ha h (fun t h1 => (ht t h1).1) fun t h1 z => hn (by have := (ht t h1).2; rw [z.1, z.2] at this; exact this)
theorem Reg.sh (h : Sh n R) (ht : Reg n ts P) : Sh n (putsT R ts) := h.puts fun t h1 => (ht t h1).1
theorem Reg.row (h : Sh n R) (ht : Reg n ts P) {b : Int} (hb : 0 ≤ b) (hbn : b < n) (hn : ∀ a, ¬ P b a) : rowAt (putsT R ts) b = rowAt R b := row_ext (ht.sh h) h hb hbn hb hbn fun a h0 _ => ht.keep h hb h0 (hn a)
theorem Hd.keep (h : Sh n R) (hn : 2 ≤ n) (ht : Reg n ts P) (hp : ∀ b a, P b a → 2 ≤ b) (hd : Hd F E B R) : Hd F E B (putsT R ts) := by
  obtain ⟨l, l0, l1, e0, e1⟩ := hd
  exact ⟨l, l0, l1, by rw [ht.row h (by omega) (by omega) fun a z => by have := hp _ _ z; omega]; exact e0, by rw [ht.row h (by omega) (by omega) fun a z => by have := hp _ _ z; omega]; exact e1⟩
theorem Jn.keep (h : Sh n R) (ht : Reg n ts P) (hp : ∀ a, ¬ P 3 a) (hj : Jn R) : Jn (putsT R ts) := fun a h0 h8 => by rw [ht.keep h (by omega) h0 (hp a)]; exact hj a h0 h8
theorem Kd.keep (h : Sh n R) (ht : Reg n ts P) (hF : 2 ≤ F) (hp : ∀ f, 0 ≤ f → f < F → ¬ P (10 + f) 0) (hk : Kd F R) : Kd F (putsT R ts) := by
  refine ⟨?_, fun f h0 h1 => ?_⟩
  · rw [ht.keep h (by omega) (by omega) (by have := hp 0 (by omega) (by omega); simpa using this)]; exact hk.1
  · rw [ht.keep h (by omega) (by omega) (hp f (by omega) h1)]; exact hk.2 f h0 h1
theorem Sz.keep (h : Sh n R) (ht : Reg n ts P) (hp : ∀ f, 0 < f → f < F → ¬ P (10 + f) 0 ∧ ¬ P (10 + f) 1) (hs : Sz F R) : Sz F (putsT R ts) := fun f h0 h1 hk => by
  rw [ht.keep h (by omega) (by omega) (hp f h0 h1).1] at hk
  rw [ht.keep h (by omega) (by omega) (hp f h0 h1).2]
  exact hs f h0 h1 hk
/-- neither records (but for names and found), nor data blocks -/
def Pd (F E : Int) (b a : Int) : Prop := ¬ ((10 < b ∧ b < 10 + F ∧ (a = 0 ∨ a = 1 ∨ 4 ≤ a)) ∨ 10 + F + E ≤ b)
theorem Pc.keep (hb : inB F E B) (h : Sh (10 + F + E + B) R) (ht : Reg (10 + F + E + B) ts P) (hp : ∀ b a, P b a → Pd F E b a) : filesW (putsT R ts) (10 + F + E) (10 + F + E + B) (F - 1).toNat = filesW R (10 + F + E) (10 + F + E + B) (F - 1).toNat := by
  unfold inB at hb
  refine files_congr ⟨fun f a h0 h1 ha => ?_, fun b a h0 h1 h2 h3 => ?_⟩ (by omega) _ (by omega)
  · exact ht.keep h (by omega) (by omega) fun z => (hp _ _ z) (.inl ⟨by omega, by omega, by omega⟩)
  · exact ht.keep h (by omega) (by omega) fun z => (hp _ _ z) (.inr h0)
/-- neither kinds nor slots -/
def Ps (F E : Int) (b a : Int) : Prop := ¬ ((10 < b ∧ b < 10 + F ∧ a = 0) ∨ (10 + F ≤ b ∧ b < 10 + F + E))
structure SlX (F E : Int) (R R' : List (List Int)) : Prop where
  e : SlE F E R R'
  z : ∀ s : Nat, (s : Int) < 2 * E → slG F R' s 0 = slG F R s 0
theorem SlX.of (h : Sh n R) (hF : 0 ≤ F) (hn : 10 + F + E ≤ n) (ht : Reg n ts P) (hp : ∀ b a, P b a → Ps F E b a) : SlX F E R (putsT R ts) := by
  have sl : ∀ s : Nat, (s : Int) < 2 * E → ∀ j, j < 4 → slG F (putsT R ts) s j = slG F R s j := fun s hs j hj => by
    rw [slG_cel (ht.sh h) (by omega) (by omega) hj, slG_cel h (by omega) (by omega) hj]
    exact ht.keep h (by omega) (by omega) fun z => (hp _ _ z) (.inr (by omega))
  exact ⟨⟨fun f h0 h1 => ht.keep (a := 0) h (by omega) (by omega) fun z => (hp _ _ z) (.inl (by omega)), fun s hs j _ hj => sl s hs j hj⟩, fun s hs => sl s hs 0 (by omega)⟩
theorem SlX.ok (h : SlX F E R R') {s : Nat} (hs : (s : Int) < 2 * E) {rs : List (List Int)} : okS F R' s rs ↔ okS F R s rs := by
  rw [h.e.ok hs, h.z s hs]
  exact Iff.rfl
theorem SlX.rights (h : SlX F E R R') : ∀ m : Nat, (m : Int) ≤ 2 * E → rightsM F R' m = rightsM F R m
  | 0, _ => rfl
  | m + 1, hm => by
    rw [rightsM_succ, rightsM_succ, SlX.rights h m (by omega)]
    unfold rstep
    by_cases hc : okS F R m (rightsM F R m)
    · rw [if_pos ((h.ok (by omega)).mpr hc), if_pos hc, h.e.s3 m (by omega) 1 (by omega) (by omega), h.e.s3 m (by omega) 2 (by omega) (by omega), h.e.s3 m (by omega) 3 (by omega) (by omega)]
    · rw [if_neg (fun z => hc ((h.ok (by omega)).mp z)), if_neg hc]
theorem SlX.names (h : SlX F E R R') (hn : NmP F E R) : NmP F E R' := fun s hs => by
  rw [h.z s hs, h.rights s (by omega), h.ok hs]
  exact hn s hs
theorem SlX.foldB (h : SlX F E R R') : foldB F R' = foldB F R := by
  funext f
  unfold VM.foldB
  exact decide_eq_decide.mpr h.e.fold
theorem SlX.ring (h : SlX F E R R') (hE : 0 ≤ E) : ringTs2 F E R' = ringTs2 F E R := by
  unfold ringTs2 upsM2
  rw [h.foldB, h.rights _ (by omega)]
theorem SlX.use (h : SlX F E R R') : useM F R' = useM F R := by
  unfold useM
  congr 1
  funext f
  unfold useB
  exact decide_eq_decide.mpr (or_congr h.e.file h.e.fold)
theorem SlX.many (h : SlX F E R R') (hE : 0 ≤ E) (f : Int) : manyM F E R' f = manyM F E R f := by
  unfold manyM
  rw [h.rights _ (by omega)]
/-! found, counts -/
def FoP (F E : Int) (R : List (List Int)) : Prop := ∀ f ∈ useM F R, cel R (10 + f) 3 = b01 (manyM F E R f = 0)
def CoP (F E : Int) (R : List (List Int)) : Prop := ∀ f ∈ useM F R, cel R (10 + f) 2 = manyM F E R f
theorem mem_found {t : List Int} : t ∈ foundW F E R ↔ ∃ f ∈ useM F R, ¬ cel R (10 + f) 3 = b01 (manyM F E R f = 0) ∧ t = [10 + f, 3, b01 (manyM F E R f = 0)] := by
  unfold foundW
  rw [mem_accLL]
  constructor
  · rintro ⟨f, hf, h⟩
    unfold fst1 at h
    split at h
    · cases h
    · rename_i hc
      exact ⟨f, hf, hc, List.mem_singleton.mp h⟩
  · rintro ⟨f, hf, hc, rfl⟩
    refine ⟨f, hf, ?_⟩
    rw [show fst1 F E R f = _ from if_neg hc]
    exact List.mem_singleton_self _
theorem mem_count {t : List Int} : t ∈ countW F E R ↔ ∃ f ∈ useM F R, ¬ cel R (10 + f) 2 = manyM F E R f ∧ t = [10 + f, 2, manyM F E R f] := by
  unfold countW
  rw [mem_accLL]
  constructor
  · rintro ⟨f, hf, h⟩
    unfold cst1 at h
    split at h
    · cases h
    · rename_i hc
      exact ⟨f, hf, hc, List.mem_singleton.mp h⟩
  · rintro ⟨f, hf, hc, rfl⟩
    refine ⟨f, hf, ?_⟩
    rw [show cst1 F E R f = _ from if_neg hc]
    exact List.mem_singleton_self _
theorem b01_01 {c : Prop} {d : Decidable c} : 0 ≤ b01 c ∧ b01 c ≤ 1 := by unfold b01; split <;> omega
theorem many_b {f : Int} : 0 ≤ manyM F E R f ∧ manyM F E R f ≤ ((2 * E).toNat : Int) := by
  have h1 := cntR_nn (rightsM F R (2 * E).toNat) f
  have h2 := rightsM_len (F := F) (R := R) (2 * E).toNat
  have h3 : ((rightsM F R (2 * E).toNat).filter fun r => decide (r.getD 3 0 = f)).length ≤ (rightsM F R (2 * E).toNat).length := List.length_filter_le _ _
  unfold manyM cntR at *
  omega
theorem found_reg (hn : 10 + F ≤ n) : Reg n (foundW F E R) (fun b a => 10 < b ∧ b < 10 + F ∧ a = 3) := fun t ht => by
  obtain ⟨f, hf, _, rfl⟩ := mem_found.mp ht
  have := useM_in hf
  refine ⟨?_, (show 10 < 10 + f ∧ 10 + f < 10 + F ∧ (3 : Int) = 3 by omega)⟩
  unfold InT
  simp only [List.getD_cons_zero, List.getD_cons_succ]
  omega
theorem count_reg (hn : 10 + F ≤ n) : Reg n (countW F E R) (fun b a => 10 < b ∧ b < 10 + F ∧ a = 2) := fun t ht => by
  obtain ⟨f, hf, _, rfl⟩ := mem_count.mp ht
  have := useM_in hf
  refine ⟨?_, (show 10 < 10 + f ∧ 10 + f < 10 + F ∧ (2 : Int) = 2 by omega)⟩
  unfold InT
  simp only [List.getD_cons_zero, List.getD_cons_succ]
  omega
theorem found_val : ∀ t ∈ foundW F E R, 0 ≤ t.getD 2 0 ∧ t.getD 2 0 ≤ 999999999999 := fun t ht => by
  obtain ⟨f, hf, _, rfl⟩ := mem_found.mp ht
  have h := b01_01 (c := manyM F E R f = 0) (d := inferInstance)
  exact ⟨h.1, Int.le_trans h.2 (by omega)⟩
theorem count_val (hE : E ≤ 8) : ∀ t ∈ countW F E R, 0 ≤ t.getD 2 0 ∧ t.getD 2 0 ≤ 999999999999 := fun t ht => by
  obtain ⟨f, hf, _, rfl⟩ := mem_count.mp ht
  have h := many_b (F := F) (E := E) (R := R) (f := f)
  exact ⟨h.1, Int.le_trans h.2 (by omega)⟩
theorem found_fix (h : Sh n R) (hF : 0 ≤ F) (hE : 0 ≤ E) (hn : 10 + F + E ≤ n) : FoP F E (putsT R (foundW F E R)) := fun f hf => by
  have hr := found_reg (F := F) (E := E) (R := R) (n := n) (by omega)
  have sx := SlX.of (E := E) h hF hn hr fun b a z y => by omega
  rw [sx.use] at hf
  have hfi := useM_in hf
  simp only [sx.many hE f]
  refine cel_puts_eq (by omega) (by omega) h (fun t ht => (hr t ht).1) (fun t ht e1 e2 => ?_) ?_
  · obtain ⟨f', _, _, rfl⟩ := mem_found.mp ht
    simp only [List.getD_cons_zero] at e1
    have : f' = f := by omega
    subst this
    rfl
  · by_cases hc : cel R (10 + f) 3 = b01 (manyM F E R f = 0)
    · exact .inr hc
    · exact .inl ⟨_, mem_found.mpr ⟨f, hf, hc, rfl⟩, rfl, rfl⟩
theorem count_fix (h : Sh n R) (hF : 0 ≤ F) (hE : 0 ≤ E) (hn : 10 + F + E ≤ n) : CoP F E (putsT R (countW F E R)) := fun f hf => by
  have hr := count_reg (F := F) (E := E) (R := R) (n := n) (by omega)
  have sx := SlX.of (E := E) h hF hn hr fun b a z y => by omega
  rw [sx.use] at hf
  have hfi := useM_in hf
  rw [sx.many hE f]
  refine cel_puts_eq (by omega) (by omega) h (fun t ht => (hr t ht).1) (fun t ht e1 e2 => ?_) ?_
  · obtain ⟨f', _, _, rfl⟩ := mem_count.mp ht
    simp only [List.getD_cons_zero] at e1
    have : f' = f := by omega
    subst this
    rfl
  · by_cases hc : cel R (10 + f) 2 = manyM F E R f
    · exact .inr hc
    · exact .inl ⟨_, mem_count.mpr ⟨f, hf, hc, rfl⟩, rfl, rfl⟩
theorem found_nil (h : FoP F E R) : foundW F E R = [] := nil_of fun t ht => by
  obtain ⟨f, hf, hc, _⟩ := mem_found.mp ht
  exact hc (h f hf)
theorem count_nil (h : CoP F E R) : countW F E R = [] := nil_of fun t ht => by
  obtain ⟨f, hf, hc, _⟩ := mem_count.mp ht
  exact hc (h f hf)
theorem FoP.keep (h : Sh n R) (hF : 0 ≤ F) (hE : 0 ≤ E) (hn : 10 + F + E ≤ n) (ht : Reg n ts P) (hp : ∀ b a, P b a → Ps F E b a ∧ ¬ (10 < b ∧ b < 10 + F ∧ a = 3)) (hf : FoP F E R) : FoP F E (putsT R ts) := fun f h1 => by
  have sx := SlX.of (E := E) h hF hn ht fun b a z => (hp b a z).1
  rw [sx.use] at h1
  have hfi := useM_in h1
  simp only [sx.many hE f]
  rw [ht.keep h (by omega) (by omega) fun z => (hp _ _ z).2 (by omega)]
  exact hf f h1
theorem CoP.keep (h : Sh n R) (hF : 0 ≤ F) (hE : 0 ≤ E) (hn : 10 + F + E ≤ n) (ht : Reg n ts P) (hp : ∀ b a, P b a → Ps F E b a ∧ ¬ (10 < b ∧ b < 10 + F ∧ a = 2)) (hf : CoP F E R) : CoP F E (putsT R ts) := fun f h1 => by
  have sx := SlX.of (E := E) h hF hn ht fun b a z => (hp b a z).1
  rw [sx.use] at h1
  have hfi := useM_in h1
  rw [sx.many hE f, ht.keep h (by omega) (by omega) fun z => (hp _ _ z).2 (by omega)]
  exact hf f h1
/-! the map -/
theorem mem_map {t : List Int} : t ∈ mapW F E B R ↔ ∃ k : Nat, k < 8 ∧ ¬ cel R 2 k = (mapM (10 + F + E) (tkW F E B R)).getD k 0 ∧ t = [2, (k : Int), (mapM (10 + F + E) (tkW F E B R)).getD k 0] := by
  unfold mapW
  rw [mem_accN]
  constructor
  · rintro ⟨k, hk, h⟩
    unfold mpst at h
    split at h
    · cases h
    · rename_i hc
      exact ⟨k, hk, hc, List.mem_singleton.mp h⟩
  · rintro ⟨k, hk, hc, rfl⟩
    refine ⟨k, hk, ?_⟩
    rw [show mpst R (mapM (10 + F + E) (tkW F E B R)) k = _ from if_neg hc]
    exact List.mem_singleton_self _
def MB (r : List Int) : Prop := ∀ k : Nat, 0 ≤ r.getD k 0 ∧ r.getD k 0 < 1048576
theorem MB.step {lo m : Int} {r : List Int} (h : MB r) : MB (mstep lo r m) := fun k => by
  unfold mstep
  rw [List.getD_eq_getElem?_getD, List.getElem?_set]
  split
  · split
    · have hj := h ((m - lo) / 20).toNat
      generalize r.getD ((m - lo) / 20).toNat 0 = x at hj
      obtain ⟨x', rfl⟩ := Int.eq_ofNat_of_zero_le hj.1
      have hi : ((m - lo) % 20).toNat < 20 := by omega
      generalize ((m - lo) % 20).toNat = i at hi
      have e2 : (1 * 2 ^ i : Int) = ((2 ^ i : Nat) : Int) := by rw [Int.one_mul, two_pow_cast]
      have hp : 2 ^ i < 2 ^ 20 := Nat.pow_lt_pow_right (by omega) hi
      have ho : x' ||| 2 ^ i < 2 ^ 20 := Nat.or_lt_two_pow (by omega) hp
      have hs := nat_or_add_and x' (2 ^ i)
      rw [e2, bitOr_and, bitAnd_pp (Int.natCast_nonneg _) (Int.natCast_nonneg _), Int.toNat_natCast, Int.toNat_natCast]
      show 0 ≤ _ ∧ _
      simp only [Option.getD_some]
      omega
    · simp
  · rw [← List.getD_eq_getElem?_getD]; exact h k
theorem mapM_b {lo : Int} (tk : List Int) : MB (mapM lo tk) := by
  have : ∀ (tk : List Int) (r : List Int), MB r → MB (tk.foldl (mstep lo) r) := by
    intro tk
    induction tk with
    | nil => exact fun r h => h
    | cons m tk ih => exact fun r h => ih _ h.step
  refine this tk z8 fun k => ?_
  have : z8.getD k 0 = 0 := by
    unfold z8
    rw [List.getD_eq_getElem?_getD]
    match k with
    | 0 | 1 | 2 | 3 | 4 | 5 | 6 | 7 => rfl
    | k + 8 => rfl
  omega
theorem map_reg (hn : 2 < n) : Reg n (mapW F E B R) (fun b _ => b = 2) := fun t ht => by
  obtain ⟨k, hk, _, rfl⟩ := mem_map.mp ht
  refine ⟨?_, rfl⟩
  unfold InT
  simp only [List.getD_cons_zero, List.getD_cons_succ]
  omega
theorem map_val : ∀ t ∈ mapW F E B R, 0 ≤ t.getD 2 0 ∧ t.getD 2 0 ≤ 999999999999 := fun t ht => by
  obtain ⟨k, hk, _, rfl⟩ := mem_map.mp ht
  have h := mapM_b (lo := 10 + F + E) (tkW F E B R) k
  exact ⟨h.1, Int.le_trans (Int.le_of_lt h.2) (by omega)⟩
theorem map_fix (hb : inB F E B) (h : Sh (10 + F + E + B) R) : mapW F E B (putsT R (mapW F E B R)) = [] := nil_of fun t ht => by
  have hr := map_reg (F := F) (E := E) (B := B) (R := R) (n := 10 + F + E + B) (by unfold inB at hb; omega)
  have hb' := hb
  unfold inB at hb'
  obtain ⟨k, hk, hc, _⟩ := mem_map.mp ht
  refine hc ?_
  have et : tkW F E B (putsT R (mapW F E B R)) = tkW F E B R := by
    unfold tkW
    rw [Pc.keep hb h hr fun b a z => by unfold Pd; omega]
  rw [et]
  refine cel_puts_eq (by omega) (by omega) h (fun t ht => (hr t ht).1) (fun t ht e1 e2 => ?_) ?_
  · obtain ⟨k', _, _, rfl⟩ := mem_map.mp ht
    simp only [List.getD_cons_zero, List.getD_cons_succ] at e2
    have : k' = k := by omega
    subst this
    rfl
  · by_cases hc : cel R 2 k = (mapM (10 + F + E) (tkW F E B R)).getD k 0
    · exact .inr hc
    · exact .inl ⟨_, mem_map.mpr ⟨k, hk, hc, rfl⟩, rfl, rfl⟩
end
/-! the whole mend -/
noncomputable def wlM (F E B : Int) (i : Nat) (R : List (List Int)) : List (List Int) := match i with
  | 0 => boundsW R
  | 1 => headsM F E B R
  | 2 => journalW F E B R
  | 3 => kindsM F R
  | 4 => sizesM F R
  | 5 => pcW F E B R
  | 6 => namesW F E R
  | 7 => ringTs2 F E R
  | 8 => foundW F E R
  | 9 => countW F E R
  | 10 => mapW F E B R
  | _ => []
noncomputable def mendN (F E B : Int) (R : List (List Int)) : Nat → List (List Int)
  | 0 => R
  | i + 1 => putsT (mendN F E B R i) (wlM F E B i (mendN F E B R i))
/-- the first i clauses hold -/
structure Snd (F E B : Int) (i : Nat) (R : List (List Int)) : Prop where
  sh : Sh (10 + F + E + B) R
  bd : 0 < i → Bd (10 + F + E + B) R
  hd : 1 < i → Hd F E B R
  jn : 2 < i → Jn R
  kd : 3 < i → Kd F R
  sz : 4 < i → Sz F R
  pc : 5 < i → pcW F E B R = []
  nm : 6 < i → NmP F E R
  rg : 7 < i → ringTs2 F E R = []
  fo : 8 < i → FoP F E R
  co : 9 < i → CoP F E R
  mp : 10 < i → mapW F E B R = []
theorem Snd.nil {F E B : Int} {i : Nat} {R : List (List Int)} (h : Snd F E B i R) {j : Nat} (hj : j < i) : wlM F E B j R = [] := by
  match j with
  | 0 => exact bounds_nil h.sh (h.bd (by omega))
  | 1 => exact heads_nil (h.hd (by omega))
  | 2 => exact journal_nil (h.jn (by omega))
  | 3 => exact kinds_nil (h.kd (by omega))
  | 4 => exact sizes_nil (h.sz (by omega))
  | 5 => exact h.pc (by omega)
  | 6 => exact names_nil (h.nm (by omega))
  | 7 => exact h.rg (by omega)
  | 8 => exact found_nil (h.fo (by omega))
  | 9 => exact count_nil (h.co (by omega))
  | 10 => exact h.mp (by omega)
  | j + 11 => rfl
theorem Snd.start {F E B : Int} {R : List (List Int)} (h : Sh (10 + F + E + B) R) : Snd F E B 0 R := by
  constructor <;> first | exact h | (intro z; omega)
theorem Bd.reg {n : Int} {R ts : List (List Int)} {P : Int → Int → Prop} (hb : Bd n R) (h : Sh n R) (ht : Reg n ts P) (hv : ∀ t ∈ ts, 0 ≤ t.getD 2 0 ∧ t.getD 2 0 ≤ 999999999999) : Bd n (putsT R ts) := hb.puts h fun t z => ⟨(ht t z).1, hv t z⟩
theorem Snd.next {F E B : Int} (hb : inB F E B) {i : Nat} {R : List (List Int)} (h : Snd F E B i R) (hi : i < 11) : Snd F E B (i + 1) (putsT R (wlM F E B i R)) := by
  have hb' := hb
  unfold inB at hb'
  have S := h.sh
  match i, hi with
  | 0, _ =>
    have hr : Reg (10 + F + E + B) (boundsW R) (fun _ _ => True) := fun t ht => ⟨bounds_in S t ht, trivial⟩
    refine ⟨hr.sh S, fun _ => bounds_fix S, ?_, ?_, ?_, ?_, ?_, ?_, ?_, ?_, ?_, ?_⟩ <;> (intro z; omega)
  | 1, _ =>
    have hr : Reg (10 + F + E + B) (headsM F E B R) (fun b _ => b < 2) := fun t ht => heads_in (by omega) t ht
    have hbd := h.bd (by omega)
    refine ⟨hr.sh S, fun _ => hbd.reg S hr (heads_val hb S (by omega) hbd), fun _ => heads_fix S (by omega) hbd, ?_, ?_, ?_, ?_, ?_, ?_, ?_, ?_, ?_⟩ <;> (intro z; omega)
  | 2, _ =>
    have hr : Reg (10 + F + E + B) (journalW F E B R) (fun b _ => 2 ≤ b) := fun t ht => ⟨(journal_in hb S t ht).1, by have := (journal_in hb S t ht).2; omega⟩
    have hbd := h.bd (by omega)
    refine ⟨hr.sh S, fun _ => hbd.reg S hr (journal_val hb hbd), fun _ => (h.hd (by omega)).keep S (by omega) hr (fun b a z => z), fun _ => journal_fix hb S, ?_, ?_, ?_, ?_, ?_, ?_, ?_, ?_⟩ <;> (intro z; omega)
  | 3, _ =>
    have hk := kinds_in (F := F) (R := R) (n := 10 + F + E + B) (by omega)
    have hr : Reg (10 + F + E + B) (kindsM F R) (fun b _ => 10 ≤ b) := fun t ht => ⟨(hk t ht).1, (hk t ht).2.1⟩
    refine ⟨hr.sh S, fun _ => (h.bd (by omega)).reg S hr (fun t ht => by have := (hk t ht).2; omega), fun _ => (h.hd (by omega)).keep S (by omega) hr (fun b a z => by omega), fun _ => (h.jn (by omega)).keep S hr (fun a z => by omega), fun _ => kinds_fix S (by omega) (by omega), ?_, ?_, ?_, ?_, ?_, ?_, ?_⟩ <;> (intro z; omega)
  | 4, _ =>
    have hk := sizes_in (F := F) (R := R) (n := 10 + F + E + B) (by omega)
    have hr : Reg (10 + F + E + B) (sizesM F R) (fun b a => 10 < b ∧ a = 1) := fun t ht => ⟨(hk t ht).1, (hk t ht).2.1, (hk t ht).2.2.2.1⟩
    refine ⟨hr.sh S, fun _ => (h.bd (by omega)).reg S hr (fun t ht => by have := (hk t ht).2; omega), fun _ => (h.hd (by omega)).keep S (by omega) hr (fun b a z => by omega), fun _ => (h.jn (by omega)).keep S hr (fun a z => by omega), fun _ => (h.kd (by omega)).keep S hr (by omega) (fun f _ _ z => by omega), fun _ => sizes_fix S (by omega), ?_, ?_, ?_, ?_, ?_, ?_⟩ <;> (intro z; omega)
  | 5, _ =>
    have hk := pieces_in (R := R) hb
    have hr : Reg (10 + F + E + B) (pcW F E B R) (fun b a => 10 < b ∧ (b < 10 + F → 4 ≤ a)) := fun t ht => ⟨(hk t ht).1, by have := (hk t ht).2.2.1; omega, fun z => by have := (hk t ht).2.2.1; omega⟩
    refine ⟨hr.sh S, fun _ => (h.bd (by omega)).reg S hr (fun t ht => by have := (hk t ht).2.1; omega), fun _ => (h.hd (by omega)).keep S (by omega) hr (fun b a z => by omega), fun _ => (h.jn (by omega)).keep S hr (fun a z => by omega), fun _ => (h.kd (by omega)).keep S hr (by omega) (fun f _ _ z => by omega), fun _ => (h.sz (by omega)).keep S hr (fun f _ _ => ⟨fun z => by omega, fun z => by omega⟩), fun _ => ?_, ?_, ?_, ?_, ?_, ?_⟩
    · show (filesW (putsT R (pcW F E B R)) _ _ _).2 = []
      rw [pieces_fix hb S]
    all_goals (intro z; omega)
  | 6, _ =>
    have w := (names_w0 (F := F) (E := E) (R := R)).inT (n := 10 + F + E + B) (by omega) (by omega)
    have hr : Reg (10 + F + E + B) (namesW F E R) (fun b _ => 10 + F ≤ b ∧ b < 10 + F + E) := fun t ht => ⟨(w t ht).1, (w t ht).2.2⟩
    refine ⟨hr.sh S, fun _ => (h.bd (by omega)).reg S hr (fun t ht => by have := (w t ht).2.1; omega), fun _ => (h.hd (by omega)).keep S (by omega) hr (fun b a z => by omega), fun _ => (h.jn (by omega)).keep S hr (fun a z => by omega), fun _ => (h.kd (by omega)).keep S hr (by omega) (fun f _ _ z => by omega), fun _ => (h.sz (by omega)).keep S hr (fun f _ _ => ⟨fun z => by omega, fun z => by omega⟩), fun _ => ?_, fun _ => names_fix S (by omega) (by omega), ?_, ?_, ?_, ?_⟩
    · show (filesW (putsT R (namesW F E R)) _ _ _).2 = []
      rw [Pc.keep hb S hr fun b a z => by unfold Pd; omega]
      exact h.pc (by omega)
    all_goals (intro z; omega)
  | 7, _ =>
    have w := (ring_w0 (F := F) (E := E) (R := R) (by omega)).inT (n := 10 + F + E + B) (by omega) (by omega)
    have hr : Reg (10 + F + E + B) (ringTs2 F E R) (fun b _ => 10 + F ≤ b ∧ b < 10 + F + E) := fun t ht => ⟨(w t ht).1, (w t ht).2.2⟩
    have hx := ring_fix S (by omega) (by omega) (h.nm (by omega))
    refine ⟨hr.sh S, fun _ => (h.bd (by omega)).reg S hr (fun t ht => by have := (w t ht).2.1; omega), fun _ => (h.hd (by omega)).keep S (by omega) hr (fun b a z => by omega), fun _ => (h.jn (by omega)).keep S hr (fun a z => by omega), fun _ => (h.kd (by omega)).keep S hr (by omega) (fun f _ _ z => by omega), fun _ => (h.sz (by omega)).keep S hr (fun f _ _ => ⟨fun z => by omega, fun z => by omega⟩), fun _ => ?_, fun _ => hx.1, fun _ => hx.2, ?_, ?_, ?_⟩
    · show (filesW (putsT R (ringTs2 F E R)) _ _ _).2 = []
      rw [Pc.keep hb S hr fun b a z => by unfold Pd; omega]
      exact h.pc (by omega)
    all_goals (intro z; omega)
  | 8, _ =>
    have hr := found_reg (F := F) (E := E) (R := R) (n := 10 + F + E + B) (by omega)
    have sx : SlX F E R (putsT R (foundW F E R)) := SlX.of (E := E) S (by omega) (by omega) hr fun b a z y => by omega
    refine ⟨hr.sh S, fun _ => (h.bd (by omega)).reg S hr found_val, fun _ => (h.hd (by omega)).keep S (by omega) hr (fun b a z => by omega), fun _ => (h.jn (by omega)).keep S hr (fun a z => by omega), fun _ => (h.kd (by omega)).keep S hr (by omega) (fun f _ _ z => by omega), fun _ => (h.sz (by omega)).keep S hr (fun f _ _ => ⟨fun z => by omega, fun z => by omega⟩), fun _ => ?_, fun _ => sx.names (h.nm (by omega)), fun _ => ?_, fun _ => found_fix S (by omega) (by omega) (by omega), ?_, ?_⟩
    · show (filesW (putsT R (foundW F E R)) _ _ _).2 = []
      rw [Pc.keep hb S hr fun b a z => by unfold Pd; omega]
      exact h.pc (by omega)
    · show ringTs2 F E (putsT R (foundW F E R)) = []
      rw [sx.ring (show (0 : Int) ≤ E by omega)]
      exact h.rg (by omega)
    all_goals (intro z; omega)
  | 9, _ =>
    have hr := count_reg (F := F) (E := E) (R := R) (n := 10 + F + E + B) (by omega)
    have sx : SlX F E R (putsT R (countW F E R)) := SlX.of (E := E) S (by omega) (by omega) hr fun b a z y => by omega
    refine ⟨hr.sh S, fun _ => (h.bd (by omega)).reg S hr (count_val (by omega)), fun _ => (h.hd (by omega)).keep S (by omega) hr (fun b a z => by omega), fun _ => (h.jn (by omega)).keep S hr (fun a z => by omega), fun _ => (h.kd (by omega)).keep S hr (by omega) (fun f _ _ z => by omega), fun _ => (h.sz (by omega)).keep S hr (fun f _ _ => ⟨fun z => by omega, fun z => by omega⟩), fun _ => ?_, fun _ => sx.names (h.nm (by omega)), fun _ => ?_, fun _ => (h.fo (by omega)).keep S (by omega) (by omega) (by omega) hr (fun b a z => ⟨by unfold Ps; omega, by omega⟩), fun _ => count_fix S (by omega) (by omega) (by omega), ?_⟩
    · show (filesW (putsT R (countW F E R)) _ _ _).2 = []
      rw [Pc.keep hb S hr fun b a z => by unfold Pd; omega]
      exact h.pc (by omega)
    · show ringTs2 F E (putsT R (countW F E R)) = []
      rw [sx.ring (show (0 : Int) ≤ E by omega)]
      exact h.rg (by omega)
    all_goals (intro z; omega)
  | 10, _ =>
    have hr := map_reg (F := F) (E := E) (B := B) (R := R) (n := 10 + F + E + B) (by omega)
    have sx : SlX F E R (putsT R (mapW F E B R)) := SlX.of (E := E) S (by omega) (by omega) hr fun b a z y => by omega
    refine ⟨hr.sh S, fun _ => (h.bd (by omega)).reg S hr map_val, fun _ => (h.hd (by omega)).keep S (by omega) hr (fun b a z => by omega), fun _ => (h.jn (by omega)).keep S hr (fun a z => by omega), fun _ => (h.kd (by omega)).keep S hr (by omega) (fun f _ _ z => by omega), fun _ => (h.sz (by omega)).keep S hr (fun f _ _ => ⟨fun z => by omega, fun z => by omega⟩), fun _ => ?_, fun _ => sx.names (h.nm (by omega)), fun _ => ?_, fun _ => (h.fo (by omega)).keep S (by omega) (by omega) (by omega) hr (fun b a z => ⟨by unfold Ps; omega, by omega⟩), fun _ => (h.co (by omega)).keep S (by omega) (by omega) (by omega) hr (fun b a z => ⟨by unfold Ps; omega, by omega⟩), fun _ => map_fix hb S⟩
    · show (filesW (putsT R (mapW F E B R)) _ _ _).2 = []
      rw [Pc.keep hb S hr fun b a z => by unfold Pd; omega]
      exact h.pc (by omega)
    · show ringTs2 F E (putsT R (mapW F E B R)) = []
      rw [sx.ring (show (0 : Int) ≤ E by omega)]
      exact h.rg (by omega)
/-- what mend makes of any volume of numbers -/
theorem mend_snd {F E B : Int} (hb : inB F E B) {R : List (List Int)} (h : Sh (10 + F + E + B) R) : ∀ i, i ≤ 11 → Snd F E B i (mendN F E B R i)
  | 0, _ => Snd.start h
  | i + 1, hi => (mend_snd hb h i (by omega)).next hb (by omega)
theorem mendN_same {F E B : Int} {R : List (List Int)} (h : ∀ j, j < 11 → wlM F E B j R = []) : ∀ i, i ≤ 11 → mendN F E B R i = R
  | 0, _ => rfl
  | i + 1, hi => by
    show putsT (mendN F E B R i) (wlM F E B i (mendN F E B R i)) = R
    rw [mendN_same h i (by omega), h i (by omega)]
    rfl
def CLs : List Str := ["bounds", "head", "journal", "kind", "size", "piece", "name", "ring", "found", "count", "map"]
def CLn (i : Nat) : Str := CLs.getD i ""
theorem CLs_get {i : Nat} {x : V} (h : (CLs.map V.str)[i]? = some x) : i < 11 ∧ x = .str (CLn i) := by
  rw [List.getElem?_map] at h
  obtain ⟨y, h1, h2⟩ := Option.map_eq_some_iff.mp h
  have h3 : i < 11 := (List.getElem?_eq_some_iff.mp h1).1
  refine ⟨h3, ?_⟩
  rw [← h2]
  unfold CLn
  rw [List.getD_eq_getElem?_getD, h1]
  rfl
theorem cl_ist {K : PySem.W.Frag} {L : Lg} (h : He.tupB K "CLAUSES" [.str "bounds", .str "head", .str "journal", .str "kind", .str "size", .str "piece", .str "name", .str "ring", .str "found", .str "count", .str "map"] = true) : IsT K L (He.ga K "CLAUSES") (CLs.map V.str) := fun H _ => He.tupB_ok h H
local macro_rules | `(tactic| walk_at "ist") => `(tactic| exact cl_ist (by assumption))
def WrongIs (cl : Str) (F E B : Int) (R ts : List (List Int)) : Prop := ∃ i, i < 11 ∧ cl = CLn i ∧ ts = wlM F E B i R
/-- the changes that mend tells -/
def dC (e : Str × List Int) : PyData := .tuple [.str e.1, .int (e.2.getD 0 0), .int (e.2.getD 1 0), .int (e.2.getD 2 0)]
noncomputable def chgN (F E B : Int) (R : List (List Int)) : Nat → List (Str × List Int)
  | 0 => []
  | i + 1 => chgN F E B R i ++ (wlM F E B i (mendN F E B R i)).map fun t => (CLn i, t)
def LdC (c : Chunk) (p : Addr) (es : List (Str × List Int)) : Prop := LdD c p (es.map dC)
theorem bst_len (R : List (List Int)) (b a : Int) : (bst R b a).length ≤ 1 := by unfold bst; split <;> simp
theorem accM_len8 {g : Nat → List (List Int)} (h : ∀ j, (g j).length ≤ 8) : ∀ i, (accM g i).length ≤ 8 * i
  | 0 => Nat.le_refl _
  | i + 1 => by
    rw [accM_succ, List.length_append]
    have := h i
    have := accM_len8 h i
    omega
/-- how many a clause tells -/
theorem wl_len {F E B : Int} (hb : inB F E B) {R : List (List Int)} (h : Sh (10 + F + E + B) R) : ∀ i, (wlM F E B i R).length ≤ 1000 := fun i => by
  have hb' := hb
  unfold inB at hb'
  have hl := h.len
  match i with
  | 0 =>
    have := accM_len8 (g := fun b : Nat => accM (fun a : Nat => bst R b a) 8) (fun b => accM_len (fun a => bst_len R b a) 8) R.length
    show (boundsW R).length ≤ 1000
    unfold boundsW
    omega
  | 1 =>
    have := heads_len R (dueH F E B R) 2
    show (headsM F E B R).length ≤ 1000
    unfold headsM
    omega
  | 2 => exact Nat.le_trans (journalW_len (F := F) (E := E) (B := B) (R := R)) (by omega)
  | 3 =>
    have := accM_len (g := fun i => kst R i) (fun j => kst_len R j) F.toNat
    show (kindsM F R).length ≤ 1000
    unfold kindsM
    omega
  | 4 =>
    have := accM_len (g := fun i : Nat => sst R (1 + (i : Int))) (fun j => sst_len R _) (F - 1).toNat
    show (sizesM F R).length ≤ 1000
    unfold sizesM
    omega
  | 5 =>
    have := filesW_sz (R := R) (lo := 10 + F + E) (hi := 10 + F + E + B) (F - 1).toNat
    show (pcW F E B R).length ≤ 1000
    unfold pcW
    unfold sz2 at this
    omega
  | 6 =>
    have := accM_len (g := wnst F R) (fun s => wnst_len F R s) (2 * E).toNat
    show (namesW F E R).length ≤ 1000
    unfold namesW
    omega
  | 7 =>
    have hul := (upsM2_ok (F := F) (E := E) (R := R) (by omega)).len
    show (ringTs2 F E R).length ≤ 1000
    unfold ringTs2 ringW ringK
    rw [List.length_map]
    refine Nat.le_trans (List.length_filter_le _ _) ?_
    rw [(keysS_perm _).length_eq]
    unfold keysU
    rw [List.length_map]
    omega
  | 8 => exact Nat.le_trans (foundW_len (F := F) (E := E) (R := R)) (by omega)
  | 9 => exact Nat.le_trans (countW_len (F := F) (E := E) (R := R)) (by omega)
  | 10 =>
    have := accM_len (g := fun k : Nat => mpst R (mapM (10 + F + E) (tkW F E B R)) k) (fun p => mpst_len R _ p) 8
    show (mapW F E B R).length ≤ 1000
    unfold mapW
    omega
  | i + 11 => exact Nat.zero_le _
theorem wl_in {F E B : Int} (hb : inB F E B) {i : Nat} {R : List (List Int)} (h : Snd F E B i R) : ∀ t ∈ wlM F E B i R, InT (10 + F + E + B) t := fun t ht => by
  have hb' := hb
  unfold inB at hb'
  have S := h.sh
  match i, ht with
  | 0, ht => exact bounds_in S t ht
  | 1, ht => exact (heads_in (by omega) t ht).1
  | 2, ht => exact (journal_in hb S t ht).1
  | 3, ht => exact (kinds_in (by omega) t ht).1
  | 4, ht => exact (sizes_in (by omega) t ht).1
  | 5, ht => exact (pieces_in hb t ht).1
  | 6, ht => exact ((names_w0 (F := F) (E := E) (R := R)).inT (by omega) (by omega) t ht).1
  | 7, ht => exact ((ring_w0 (F := F) (E := E) (R := R) (by omega)).inT (by omega) (by omega) t ht).1
  | 8, ht => exact (found_reg (by omega) t ht).1
  | 9, ht => exact (count_reg (by omega) t ht).1
  | 10, ht => exact (map_reg (by omega) t ht).1
  | i + 11, ht => exact absurd ht (by simp [wlM])
theorem wl_3 {F E B : Int} (hb : inB F E B) {i : Nat} {R : List (List Int)} : ∀ t ∈ wlM F E B i R, t.length = 3 := fun t ht => by
  have hb' := hb
  unfold inB at hb'
  match i, ht with
  | 0, ht => obtain ⟨_, _, _, _, _, rfl⟩ := mem_bounds.mp ht; rfl
  | 1, ht => obtain ⟨_, _, _, _, _, _, rfl⟩ := mem_heads.mp ht; rfl
  | 2, ht => rcases mem_journal.mp ht with ⟨_, _, _, _, _, _, rfl⟩ | ⟨_, _, _, rfl⟩ <;> rfl
  | 3, ht => obtain ⟨_, _, ⟨_, _, rfl⟩ | ⟨_, _, rfl⟩⟩ := mem_kinds.mp ht <;> rfl
  | 4, ht => obtain ⟨_, _, _, _, _, rfl⟩ := mem_sizes.mp ht; rfl
  | 5, ht => obtain ⟨v, _, rfl⟩ := (pieces_in hb t ht).2.2.2; rfl
  | 6, ht => obtain ⟨_, _, _, _, rfl⟩ := mem_names.mp ht; rfl
  | 7, ht => obtain ⟨_, _, rfl⟩ := List.mem_map.mp ht; rfl
  | 8, ht => obtain ⟨_, _, _, rfl⟩ := mem_found.mp ht; rfl
  | 9, ht => obtain ⟨_, _, _, rfl⟩ := mem_count.mp ht; rfl
  | 10, ht => obtain ⟨_, _, _, rfl⟩ := mem_map.mp ht; rfl
  | i + 11, ht => exact absurd ht (by simp [wlM])
theorem puts_take {R ts : List (List Int)} {k : Nat} {t : List Int} (h : ts[k]? = some t) : putsT R (ts.take (k + 1)) = putT (putsT R (ts.take k)) t := by
  unfold putsT
  rw [List.take_succ, h, List.foldl_append]
  rfl
theorem list3 {l : List Int} (h : l.length = 3) : ∃ a b c, l = [a, b, c] := by
  match l, h with
  | [a, b, c], _ => exact ⟨a, b, c, rfl⟩
theorem bnd_of {n : Int} {R : List (List Int)} (h : Sh n R) (hd : Bd n R) : Bnd R := by
  intro r hr x hx
  obtain ⟨i, hi, rfl⟩ := List.mem_iff_getElem.mp hr
  obtain ⟨j, hj, rfl⟩ := List.mem_iff_getElem.mp hx
  have h8 := h.row _ hr
  have hl := h.len
  have := hd (i : Int) (j : Int) (by omega) (by omega) (by omega) (by omega)
  unfold cel rowAt at this
  rw [Int.toNat_natCast, Int.toNat_natCast, List.getD_eq_getElem?_getD, List.getD_eq_getElem?_getD, List.getElem?_eq_getElem hi, Option.getD_some, List.getElem?_eq_getElem hj, Option.getD_some] at this
  omega
theorem chg_len {F E B : Int} (hb : inB F E B) {R : List (List Int)} (h : Sh (10 + F + E + B) R) : ∀ i, i ≤ 11 → (chgN F E B R i).length ≤ 1000 * i
  | 0, _ => Nat.le_refl _
  | i + 1, hi => by
    have h1 := chg_len hb h i (by omega)
    have h2 := wl_len hb (mend_snd hb h i (by omega)).sh i
    show (chgN F E B R i ++ _).length ≤ _
    rw [List.length_append, List.length_map]
    omega
theorem LdC.to {c : Chunk} {p : Addr} {es es' : List (Str × List Int)} (h : LdC c p es) (e : es' = es) : LdC c p es' := e ▸ h
theorem s_appC {P : Lg → Prop} {c : Chunk} {p t : Addr} {es : List (Str × List Int)} {x : Str} {n0 n1 n2 : Int} {L L1 L2 : Lg} (h : LdC c p es) (hp : Pull [(t, .tup [.str x, .int n0, .int n1, .int n2])] L L1) (hc : Pull c L1 L2) (hz : es.length < 1000000) (k : ∀ c', LdC c' p (es ++ [(x, [n0, n1, n2])]) → Wk P (c' :: L2)) : gAppend (.ref p) [.ref t] L (fun _ => Wk P) := by
  refine LdD.snoc (d := dC (x, [n0, n1, n2])) (cs := [[(t, .tup [.str x, .int n0, .int n1, .int n2])]]) h (.tup (xs := [.str x, .int n0, .int n1, .int n2]) (by simp) (.cons (.str x) (.cons (.int n0) (.cons (.int n1) (.cons (.int n2) .nil))))) (.cons hp .nil) hc (by simpa using hz) fun c' h' => k c' ?_
  unfold LdC
  rw [List.map_append]
  exact h'
local macro_rules | `(tactic| walk_at "c") => `(tactic| ((with_reducible refine' s_appC ?h1 ?h2 ?h3 ?h4 (fun _ _ => ?_)); (case h1 => assumption); (case h2 => walk_at "pull"); (case h3 => walk_at "pull"); (case h4 => first | assumption | (simp only [List.length_append, List.length_map]; omega))))
theorem tyl_ldC {K : PySem.W.Frag} {c : Chunk} {p : Addr} {es : List (Str × List Int)} {L : Lg} {B : Prop} (h : LdC c p es) (hm : c ∈ L) (k : B) : TyL K "list" (.ref p) L ∧ B := by
  obtain ⟨C, xs, rfl, _⟩ := h
  exact s_tylk (IsL.at_ (At.mem hm List.mem_cons_self)) k
local macro_rules | `(tactic| walk_at "c") => `(tactic| ((with_reducible refine' tyl_ldC ?h1 ?h2 ?_); (case h1 => assumption); (case h2 => walk_at "mem")))
noncomputable def badB (F E B : Int) (R : List (List Int)) (i : Nat) : Bool := !decide (wlM F E B i R = [])
noncomputable def fltN (F E B : Int) (R : List (List Int)) : List Str := ((List.range 11).filter (badB F E B R)).map CLn
abbrev OkI (x : Int) : Prop := -10000000000000000000000000000000000000000 < x ∧ x < 10000000000000000000000000000000000000000
def OkR (r : List Int) : Prop := r.length = 8 ∧ ∀ x ∈ r, OkI x
abbrev WsT := List Str
def RdM (n : Int) : Prop := 0 ≤ n ∧ n < 2147483647
theorem s_div_small {i j : Int} {L : Lg} {Q : LVK} (h0 : 0 < j) (h1 : j < 1000000) (k : Q (.int (i / j)) L) : gDiv (.int i) (.int j) L Q := s_div ⟨h0, by
  have h2 : j.natAbs.log2 < 20 := (Nat.log2_lt (by omega)).mpr (by omega)
  omega⟩ k
local macro_rules | `(tactic| walk_at "c") => `(tactic| ((with_reducible refine' s_div_small ?h1 ?h2 ?_); (case h1 => omega); (case h2 => omega)))
theorem okr_head {F E B l : Int} (hb : 2 ≤ F ∧ F ≤ 12 ∧ 1 ≤ E ∧ E ≤ 8 ∧ 2 ≤ B ∧ B ≤ 40) (h0 : 0 ≤ l) (h1 : l ≤ 999999999999) : OkR (headM F E B l) := ⟨rfl, fun x hx => by
  have hc := chk_b [1179, l, F, E, B, 0, 0]
  unfold headM at hx
  simp only [List.mem_cons, List.not_mem_nil, or_false] at hx
  unfold OkI
  omega⟩
theorem okr_zero : OkR (List.replicate 8 (0 : Int)) := ⟨rfl, fun x hx => by
  rw [(List.mem_replicate.mp hx).2]
  unfold OkI
  omega⟩
local macro_rules | `(tactic| walk_at "c") => `(tactic| ((with_reducible refine' s_enumv ?h1 ?_); (case h1 => walk_at "isl")))
theorem dpa_strs {K : PySem.W.Frag} {H : Hp} : ∀ ws : List Str, DpAll K H (ws.map V.str) (ws.map PyData.str)
  | [] => .nil
  | a :: ws => .cons (.str a) (dpa_strs ws)
def dS (ws : List Str) : PyData := .list (ws.map .str)
theorem DpL.strs {K : PySem.W.Frag} {L : Lg} {p : Addr} {ws : List Str} (h : IsL K L p (ws.map V.str)) : DpL K L (.ref p) (dS ws) := fun H l => .lst (h H l) (dpa_strs ws)
theorem dS_iff {a b : List Str} : dS a = dS b ↔ a = b := by
  unfold dS
  constructor
  · intro h
    have h2 : a.map PyData.str = b.map PyData.str := PyData.list.inj h
    exact (List.map_inj_right (fun x y z => PyData.str.inj z)).mp h2
  · intro h; rw [h]
theorem nb_dS {ws : List Str} (h : ∀ w ∈ ws, PyData.strOk w = true) : nbD 1 (dS ws) = true := by
  show (ws.map PyData.str).all (nbD 0) = true
  rw [List.all_eq_true]
  intro x hx
  obtain ⟨w, hw, rfl⟩ := List.mem_map.mp hx
  exact h w hw
theorem tyx_tupB {K : PySem.W.Frag} {L : Lg} {x : Str} {vs : List He.Dv} (h : He.tupB K x vs = true) : TyXL K L (.ref (He.ga K x)) (.type "tuple") := fun H l => by
  unfold He.tupB at h
  split at h
  · rename_i hq
    simp only [Bool.and_eq_true, decide_eq_true_eq] at h
    exact .kTuple hq (by rw [h.1])
  · cases h
local macro_rules | `(tactic| walk_at "c") => `(tactic| ((with_reducible refine' s_isi_ty (tyx_tupB ?h1) kit_same ?_); (case h1 => assumption)))
theorem CLs_ok : ∀ w ∈ CLs, PyData.strOk w = true := by decide +kernel
theorem inV_strs (x : Str) : ∀ ws : List Str, inV (.str x) (ws.map V.str) = decide (x ∈ ws)
  | [] => by simp [inV]
  | n :: ns => by
    have ih := inV_strs x ns
    unfold inV at ih ⊢
    rw [List.map_cons, List.any_cons, ih]
    by_cases e : x = n
    · subst e; simp [eqV]
    · have e' : ¬ n = x := fun h => e h.symm
      simp [eqV, e, e']
theorem flat_strs : ∀ ws : List Str, (ws.map V.str).all flatV = true
  | [] => rfl
  | n :: ns => by rw [List.map_cons, List.all_cons, flat_strs ns]; rfl
theorem s_in_s {K : PySem.W.Frag} {L : Lg} {p : Addr} {x : Str} {ws : List Str} {Q : LVK} (h : IsL K L p (ws.map V.str)) (k : Q (.bl (decide (x ∈ ws))) L) : gIn K false (.str x) (.ref p) L Q := .inl ⟨p, _, rfl, .inl h, rfl, flat_strs ws, by rw [inV_strs]; exact k⟩
theorem CLn_inj : ∀ i, i < 11 → ∀ j, j < 11 → CLn i = CLn j → i = j := by decide +kernel
theorem flt_words {F E B : Int} {R : List (List Int)} : fltN F E B R = CLs.filter (fun w => decide (w ∈ fltN F E B R)) := by
  have e : CLs = (List.range 11).map CLn := by decide +kernel
  have e2 : CLs.filter (fun w => decide (w ∈ fltN F E B R)) = ((List.range 11).filter fun i => decide (CLn i ∈ fltN F E B R)).map CLn := by
    rw [e, List.filter_map]
    rfl
  rw [e2]
  show ((List.range 11).filter (badB F E B R)).map CLn = _
  congr 1
  refine List.filter_congr fun i hi => ?_
  have hi11 := List.mem_range.mp hi
  rw [Bool.eq_iff_iff, decide_eq_true_iff]
  constructor
  · intro h
    exact List.mem_map.mpr ⟨i, List.mem_filter.mpr ⟨hi, h⟩, rfl⟩
  · intro h
    obtain ⟨j, hj, e3⟩ := List.mem_map.mp h
    have hj2 := List.mem_filter.mp hj
    have := CLn_inj j (List.mem_range.mp hj2.1) i hi11 e3
    subst this
    exact hj2.2
/-- the clauses that tell something, as the law asks for them -/
theorem a_clauses {K : PySem.W.Frag} {L : Lg} {p : Addr} {Q : LVK} {σ σw : St} {gg : LTG} {tt : LTT} {te : LTE} {vw : List Nat} {Dl : Addr} {F E B : Int} {rows : List (List Int)} (hT : IsT K L p (CLs.map V.str)) (hw : wipe σ vw = σw)
    (hs : ∀ i acc, i < 11 → acc.length < 1000000 → WrongIs (CLn i) F E B rows (wlM F E B i rows) → gg (.str (CLn i)) σw ([(Dl, .lst acc)] :: L) (LcT tt te Dl acc (fun acc' L' => acc' = acc ++ (if badB F E B rows i = true then [V.str (CLn i)] else []) ∧ L' = L) σw vw))
    (hd : Wk (Q (.ref Dl)) ([(Dl, .lst ((fltN F E B rows).map V.str))] :: L)) : LcR (wkT K p (CLs.map V.str)) gg tt te vw σ Dl L Q := by
  refine c_tup (fun i acc L' => acc = (((List.range i).filter (badB F E B rows)).map CLn).map V.str ∧ i ≤ 11 ∧ L' = L) hw (Wk.go ⟨rfl, Nat.zero_le _, rfl⟩) ?_ ?_ ?_
  · rintro i acc L' ⟨rfl, _, rfl⟩
    exact IsT.tl hT
  · rintro i acc x L' hi ⟨rfl, _, rfl⟩
    obtain ⟨hi11, rfl⟩ := CLs_get hi
    have hz : ((((List.range i).filter (badB F E B rows)).map CLn).map V.str).length < 1000000 := by
      rw [List.length_map, List.length_map]
      have := List.length_filter_le (badB F E B rows) (List.range i)
      rw [List.length_range] at this
      omega
    have e : (((List.range (i + 1)).filter (badB F E B rows)).map CLn).map V.str = (((List.range i).filter (badB F E B rows)).map CLn).map V.str ++ if badB F E B rows i = true then [V.str (CLn i)] else [] := by
      rw [List.range_succ, List.filter_append]
      cases hf : badB F E B rows i <;> simp [hf]
    have h := hs i _ hi11 hz ⟨i, hi11, rfl, rfl⟩
    rw [← e] at h
    have e2 : (fun (acc' : List V) (L'' : Lg) => acc' = (((List.range (i + 1)).filter (badB F E B rows)).map CLn).map V.str ∧ i + 1 ≤ 11 ∧ L'' = L') = (fun acc' L'' => acc' = (((List.range (i + 1)).filter (badB F E B rows)).map CLn).map V.str ∧ L'' = L') := by
      funext a b
      exact propext ⟨fun ⟨x, _, y⟩ => ⟨x, y⟩, fun ⟨x, y⟩ => ⟨x, hi11, y⟩⟩
    rw [e2]
    exact h
  · rintro acc L' ⟨rfl, _, rfl⟩
    exact hd
/-- the first clause that tells something -/
theorem chg_quiet {F E B : Int} {R : List (List Int)} : ∀ i, (∀ j, j < i → wlM F E B j R = []) → mendN F E B R i = R ∧ chgN F E B R i = []
  | 0, _ => ⟨rfl, rfl⟩
  | i + 1, h => by
    obtain ⟨h1, h2⟩ := chg_quiet (F := F) (E := E) (B := B) (R := R) i fun j hj => h j (by omega)
    constructor
    · show putsT (mendN F E B R i) (wlM F E B i (mendN F E B R i)) = R
      rw [h1, h i (by omega)]
      rfl
    · show chgN F E B R i ++ (wlM F E B i (mendN F E B R i)).map _ = []
      rw [h1, h2, h i (by omega)]
      rfl
theorem chg_more {F E B : Int} {R : List (List Int)} {i : Nat} : ∀ k, ∃ t, chgN F E B R (i + k) = chgN F E B R i ++ t
  | 0 => ⟨[], by simp⟩
  | k + 1 => by
    obtain ⟨t, h⟩ := chg_more (F := F) (E := E) (B := B) (R := R) (i := i) k
    refine ⟨t ++ (wlM F E B (i + k) (mendN F E B R (i + k))).map (fun t => (CLn (i + k), t)), ?_⟩
    rw [← List.append_assoc, ← h]
    rfl
theorem bad_first {F E B : Int} {R : List (List Int)} : ∀ n, (∀ j, j < n → wlM F E B j R = []) ∨ ∃ i, i < n ∧ (∀ j, j < i → wlM F E B j R = []) ∧ wlM F E B i R ≠ []
  | 0 => .inl fun j hj => absurd hj (Nat.not_lt_zero j)
  | n + 1 => by
    rcases bad_first (F := F) (E := E) (B := B) (R := R) n with h | ⟨i, h1, h2, h3⟩
    · by_cases e : wlM F E B n R = []
      · refine .inl fun j hj => ?_
        by_cases e2 : j = n
        · rw [e2]; exact e
        · exact h j (by omega)
      · exact .inr ⟨n, by omega, h, e⟩
    · exact .inr ⟨i, by omega, h2, h3⟩
theorem range_cut {i n : Nat} (h : i < n) : List.range n = List.range i ++ i :: (List.range (n - i - 1)).map (fun k => i + 1 + k) := by
  have e : n = i + (1 + (n - i - 1)) := by omega
  conv => lhs; rw [e, List.range_add, List.range_add]
  simp [Function.comp_def, Nat.add_assoc]
theorem flt_quiet {F E B : Int} {R : List (List Int)} {i : Nat} (h : ∀ j, j < i → wlM F E B j R = []) : (List.range i).filter (badB F E B R) = [] := by
  rw [List.filter_eq_nil_iff]
  intro j hj
  unfold badB
  rw [decide_eq_true (h j (List.mem_range.mp hj))]
  decide
/-- faults and changes go together -/
theorem flt_chg {F E B : Int} {R : List (List Int)} : (fltN F E B R = [] ∧ chgN F E B R 11 = [] ∧ mendN F E B R 11 = R) ∨ ∃ w t ws ts, fltN F E B R = w :: ws ∧ chgN F E B R 11 = (w, t) :: ts := by
  rcases bad_first (F := F) (E := E) (B := B) (R := R) 11 with h | ⟨i, h1, h2, h3⟩
  · obtain ⟨a, b⟩ := chg_quiet 11 h
    refine .inl ⟨?_, b, a⟩
    unfold fltN
    rw [flt_quiet h]
    rfl
  · obtain ⟨a, b⟩ := chg_quiet i h2
    refine .inr ?_
    obtain ⟨t, ts, e⟩ : ∃ t ts, wlM F E B i R = t :: ts := by
      cases hc : wlM F E B i R with
      | nil => exact absurd hc h3
      | cons t ts => exact ⟨t, ts, rfl⟩
    obtain ⟨u, hu⟩ := chg_more (F := F) (E := E) (B := B) (R := R) (i := i + 1) (11 - (i + 1))
    have e1 : chgN F E B R (i + 1) = (CLn i, t) :: ts.map fun t => (CLn i, t) := by
      show chgN F E B R i ++ (wlM F E B i (mendN F E B R i)).map _ = _
      rw [a, b, e]
      rfl
    rw [show i + 1 + (11 - (i + 1)) = 11 by omega, e1] at hu
    have hbad : badB F E B R i = true := by
      unfold badB
      rw [decide_eq_false h3]
      decide
    have e2 : ∃ ws, fltN F E B R = CLn i :: ws := by
      refine ⟨(((List.range (11 - i - 1)).map (fun k => i + 1 + k)).filter (badB F E B R)).map CLn, ?_⟩
      unfold fltN
      rw [range_cut h1, List.filter_append, flt_quiet h2, List.nil_append, List.filter_cons_of_pos hbad]
      rfl
    obtain ⟨ws, e2⟩ := e2
    exact ⟨CLn i, t, ws, _, e2, hu⟩
theorem snd_rest {F E B : Int} {R : List (List Int)} (h : Snd F E B 11 R) : fltN F E B R = [] ∧ chgN F E B R 11 = [] ∧ mendN F E B R 11 = R := by
  obtain ⟨a, b⟩ := chg_quiet 11 fun j hj => h.nil hj
  refine ⟨?_, b, a⟩
  unfold fltN
  rw [flt_quiet fun j hj => h.nil hj]
  rfl
theorem DpL.ldC {K : PySem.W.Frag} {c : Chunk} {p : Addr} {es : List (Str × List Int)} {L : Lg} (h : LdC c p es) (hm : c ∈ L) : DpL K L (.ref p) (.list (es.map dC)) := DpL.tel (LdD.tel h) hm
theorem chg_ok {F E B : Int} {R : List (List Int)} : ∀ i, i ≤ 11 → ∀ e ∈ chgN F E B R i, PyData.strOk e.1 = true
  | 0, _, e, h => absurd h (by simp [chgN])
  | i + 1, hi, e, h => by
    rcases List.mem_append.mp (show e ∈ chgN F E B R i ++ (wlM F E B i (mendN F E B R i)).map (fun t => (CLn i, t)) from h) with h | h
    · exact chg_ok i (by omega) e h
    · obtain ⟨t, _, rfl⟩ := List.mem_map.mp h
      exact (show ∀ j, j < 11 → PyData.strOk (CLn j) = true by decide +kernel) i (by omega)
theorem nb_ldC {es : List (Str × List Int)} (h : ∀ e ∈ es, PyData.strOk e.1 = true) : nbD 2 (.list (es.map dC)) = true := by
  show (es.map dC).all (nbD 1) = true
  rw [List.all_eq_true]
  intro x hx
  obtain ⟨e, he, rfl⟩ := List.mem_map.mp hx
  show (PyData.strOk e.1 && _) = true
  rw [h e he]
  rfl
theorem dC_nil {es : List (Str × List Int)} : PyData.list (es.map dC) = .list [] ↔ es = [] := by
  constructor
  · intro h
    exact List.map_eq_nil_iff.mp (PyData.list.inj h)
  · intro h; rw [h]; rfl
theorem dS_nil {ws : List Str} : dS ws = .list [] ↔ ws = [] := by
  unfold dS
  constructor
  · intro h
    exact List.map_eq_nil_iff.mp (PyData.list.inj h)
  · intro h; rw [h]; rfl
theorem flt_ok {F E B : Int} {R : List (List Int)} : ∀ w ∈ fltN F E B R, PyData.strOk w = true := fun w hw => by
  rw [flt_words (F := F) (E := E) (B := B) (R := R)] at hw
  exact CLs_ok w (List.mem_filter.mp hw).1
section
variable {K : PySem.W.Frag} {L : Lg} {Q : LVK}
theorem s_eq_t {x y : V} {d e : PyData} {n m : Nat} (h1 : DpL K L x d) (h2 : DpL K L y e) (h3 : nbD n d = true) (h4 : nbD m e = true) (h5 : d = e) (k : Q (.bl true) L) (hn : n ≤ 64 := by decide) (hm : m ≤ 64 := by decide) : gEq K x y L Q := s_eq_dp h1 h2 h3 h4 (C := True) ⟨fun _ => trivial, fun _ => h5⟩ (by rw [dec_t trivial]; exact k) hn hm
theorem s_eq_f {x y : V} {d e : PyData} {n m : Nat} (h1 : DpL K L x d) (h2 : DpL K L y e) (h3 : nbD n d = true) (h4 : nbD m e = true) (h5 : ¬ d = e) (k : Q (.bl false) L) (hn : n ≤ 64 := by decide) (hm : m ≤ 64 := by decide) : gEq K x y L Q := s_eq_dp h1 h2 h3 h4 (C := False) ⟨fun z => h5 z, fun z => z.elim⟩ (by rw [dec_f id]; exact k) hn hm
theorem s_ne_t {x y : V} {d e : PyData} {n m : Nat} (h1 : DpL K L x d) (h2 : DpL K L y e) (h3 : nbD n d = true) (h4 : nbD m e = true) (h5 : ¬ d = e) (k : Q (.bl true) L) (hn : n ≤ 64 := by decide) (hm : m ≤ 64 := by decide) : gNe K x y L Q := s_ne_dp h1 h2 h3 h4 (C := False) ⟨fun z => h5 z, fun z => z.elim⟩ (by rw [dec_f id]; exact k) hn hm
theorem s_ne_f {x y : V} {d e : PyData} {n m : Nat} (h1 : DpL K L x d) (h2 : DpL K L y e) (h3 : nbD n d = true) (h4 : nbD m e = true) (h5 : d = e) (k : Q (.bl false) L) (hn : n ≤ 64 := by decide) (hm : m ≤ 64 := by decide) : gNe K x y L Q := s_ne_dp h1 h2 h3 h4 (C := True) ⟨fun _ => trivial, fun _ => h5⟩ (by rw [dec_t trivial]; exact k) hn hm
theorem DpL.nil {p : Addr} (h : IsL K L p []) : DpL K L (.ref p) (.list []) := DpL.lst h DpLA.nil
theorem DpL.pair {p : Addr} {x y : V} {d e : PyData} (h : IsT K L p [x, y]) (h1 : DpL K L x d) (h2 : DpL K L y e) : DpL K L (.ref p) (.tuple [d, e]) := DpL.tup h (DpLA.cons h1 (DpLA.cons h2 DpLA.nil))
theorem nb_pair {R : List (List Int)} {es : List (Str × List Int)} (h : ∀ e ∈ es, PyData.strOk e.1 = true) : nbD 3 (.tuple [dR R, .list (es.map dC)]) = true := by
  show (nbD 2 (dR R) && (nbD 2 (.list (es.map dC)) && true)) = true
  rw [nb_dR, nb_ldC h]
  rfl
theorem s_ix_C {c : Chunk} {p : Addr} {es ts : List (Str × List Int)} {w : Str} {t : List Int} (h : LdC c p es) (e0 : es = (w, t) :: ts) (hm : c ∈ L) (k : ∀ a, At L a (.tup [.str w, .int (t.getD 0 0), .int (t.getD 1 0), .int (t.getD 2 0)]) → Q (.ref a) L) : gIx K (.ref p) (.int 0) L Q := by
  subst e0
  obtain ⟨C, xs, rfl, h2⟩ := h
  obtain ⟨x, xs', rfl, h3, h4⟩ := TelAll.cons_inv (show TelAll C xs (dC (w, t) :: ts.map dC) from h2)
  cases h3 with
  | tup m k2 =>
    obtain ⟨_, _, rfl, z1, k2⟩ := TelAll.cons_inv k2
    obtain ⟨_, _, rfl, z2, k2⟩ := TelAll.cons_inv k2
    obtain ⟨_, _, rfl, z3, k2⟩ := TelAll.cons_inv k2
    obtain ⟨_, _, rfl, z4, k2⟩ := TelAll.cons_inv k2
    cases TelAll.nil_inv k2
    cases z1; cases z2; cases z3; cases z4
    exact s_ix_l (v := .ref _) (IsL.at_ (At.mem hm List.mem_cons_self)) (atI_nat (j := 0) rfl) (k _ (At.mem hm (List.mem_cons_of_mem _ m)))
theorem ldC_nil {c : Chunk} {p : Addr} {es : List (Str × List Int)} (h : LdC c p es) (e : es = []) : ∃ C, c = (p, .lst []) :: C := by
  subst e
  obtain ⟨C, xs, rfl, h2⟩ := h
  rw [TelAll.nil_inv h2]
  exact ⟨C, rfl⟩
theorem wr_clear0 {p : Addr} {as : List Addr} {rows : List (List Int)} {L : Lg} (hl : as.length = rows.length) (h0 : 0 < rows.length) : Wr (adrAt as 0) (.lst ((rowAt rows 0).map V.int)) (.lst []) (volC p as rows :: L) (volC p as ([] :: rows.drop 1) :: L) := by
  match as, rows, hl with
  | a :: as, r :: rows, _ => exact Wr.hd (A := [(p, .lst ((a :: as).map V.ref))]) (B := cellsL as rows)
  | [], [], _ => exact absurd h0 (by simp)
theorem s_clear0 {p : Addr} {as : List Addr} {rows : List (List Int)} {L L' : Lg} {Q : LVK} (h : Rp (volC p as rows) (volC p as ([] :: rows.drop 1)) L L') (hl : as.length = rows.length) (h0 : 0 < rows.length) (k : Q .non L') : gClear (.ref (adrAt as 0)) [] L Q := s_clear (Rp.wr h fun _ => wr_clear0 hl h0) k
theorem s_popV {p : Addr} {as : List Addr} {rows : List (List Int)} {L L' : Lg} {Q : LVK} (h : Rp (volC p as rows) ((p, .lst (as.map V.ref).dropLast) :: cellsL as rows) L L') (h0 : 0 < as.length) (k : ∀ v, Q v L') : gPop (.ref p) [] L Q := s_pop (v := .ref (as[as.length - 1]'(by omega))) (Rp.wr h fun _ => Wr.hd (A := []) (B := cellsL as rows)) (by rw [List.length_map, List.getElem?_map, List.getElem?_eq_getElem (by omega)]; rfl) (k _)
theorem s_app0 {p : Addr} {C : Chunk} {x : V} {L L' : Lg} {Q : LVK} (h : Rp ((p, .lst []) :: C) ((p, .lst [x]) :: C) L L') (k : Q .non L') : gAppend (.ref p) [x] L Q := s_append (Rp.wr h fun _ => Wr.hd (A := []) (B := C)) (by simp) k
end
theorem dS_ne {ws : List Str} (h : ¬ ws = []) : ¬ dS ws = .list [] := fun z => h (dS_nil.mp z)
theorem dC_ne {es : List (Str × List Int)} (h : ¬ es = []) : ¬ PyData.list (es.map dC) = .list [] := fun z => h (dC_nil.mp z)
theorem gateEq {K : PySem.W.Frag} {x y : V} {L : Lg} {Q : LVK} (h : gEq K x y L Q) : gEq K x y L Q := h
theorem gateNe {K : PySem.W.Frag} {x y : V} {L : Lg} {Q : LVK} (h : gNe K x y L Q) : gNe K x y L Q := h
theorem gateIx {K : PySem.W.Frag} {x y : V} {L : Lg} {Q : LVK} (h : gIx K x y L Q) : gIx K x y L Q := h
theorem s_joinI {t : LTS} {n0 : St → Lg → Prop} {r0 : LVK} {b0 c0 : St → Lg → Prop} {σ : St} {L : Lg} (h1 : t ⟨fun τ => Wk (fun L' => τ = σ ∧ L' = L), r0, b0, c0⟩ σ L) (h2 : n0 σ L) : lJoin t ⟨n0, r0, b0, c0⟩ σ L := s_join (fun τ L' => τ = σ ∧ L' = L) h1 fun τ L' ⟨e, e'⟩ => by subst e; subst e'; exact h2
local macro_rules | `(tactic| walk_at "c") => `(tactic| ((with_reducible refine gateEq ?_); first
      | ((with_reducible refine' s_eq_t (DpL.strs ?h1) (DpL.nil ?h2) (nb_dS ?h3) (m := 8) rfl (dS_nil.mpr ?h5) ?_); (case h1 => walk_at "isl"); (case h2 => walk_at "isl"); (case h5 => assumption); (case h3 => first | assumption | exact flt_ok))
      | ((with_reducible refine' s_eq_f (DpL.strs ?h1) (DpL.nil ?h2) (nb_dS ?h3) (m := 8) rfl (dS_ne ?h5) ?_); (case h1 => walk_at "isl"); (case h2 => walk_at "isl"); (case h5 => assumption); (case h3 => first | assumption | exact flt_ok))
      | ((with_reducible refine' s_eq_t (DpL.ldC ?h1 ?h0) (DpL.nil ?h2) (nb_ldC ?h3) (m := 8) rfl (dC_nil.mpr ?h5) ?_); (case h1 => assumption); (case h0 => walk_at "mem"); (case h2 => walk_at "isl"); (case h5 => assumption); (case h3 => first | assumption | exact chg_ok 11 (by omega)))
      | ((with_reducible refine' s_eq_f (DpL.ldC ?h1 ?h0) (DpL.nil ?h2) (nb_ldC ?h3) (m := 8) rfl (dC_ne ?h5) ?_); (case h1 => assumption); (case h0 => walk_at "mem"); (case h2 => walk_at "isl"); (case h5 => assumption); (case h3 => first | assumption | exact chg_ok 11 (by omega)))
      | ((with_reducible refine' s_eq_t (DpL.pair ?g1 (DpL.vol ?g2 ?g3) (DpL.ldC ?h1 ?h0)) (DpL.pair ?g4 (DpL.vol ?g5 ?g6) (DpL.nil ?g7)) (nb_pair ?h3) (m := 3) (nb_pair (es := []) ?h4) ?h5 ?_); (case h1 => assumption); (case h0 => walk_at "mem"); (case g1 => walk_at "ist"); (case g2 => walk_at "mem"); (case g3 => walk_at "ln"); (case g4 => walk_at "ist"); (case g5 => walk_at "mem"); (case g6 => walk_at "ln"); (case g7 => walk_at "isl"); (case h3 => first | assumption | exact chg_ok 11 (by omega)); (case h4 => simp); (case h5 => assumption))))
local macro_rules | `(tactic| walk_at "c") => `(tactic| ((with_reducible refine gateNe ?_); first
      | ((with_reducible refine' s_ne_t (DpL.strs ?h1) (DpL.nil ?h2) (nb_dS ?h3) (m := 8) rfl (dS_ne ?h5) ?_); (case h1 => walk_at "isl"); (case h2 => walk_at "isl"); (case h5 => assumption); (case h3 => first | assumption | exact flt_ok))
      | ((with_reducible refine' s_ne_f (DpL.strs ?h1) (DpL.nil ?h2) (nb_dS ?h3) (m := 8) rfl (dS_nil.mpr ?h5) ?_); (case h1 => walk_at "isl"); (case h2 => walk_at "isl"); (case h5 => assumption); (case h3 => first | assumption | exact flt_ok))
      | ((with_reducible refine' s_ne_f (DpL.pair ?g1 (DpL.vol ?g2 ?g3) (DpL.ldC ?h1 ?h0)) (DpL.pair ?g4 (DpL.vol ?g5 ?g6) (DpL.nil ?g7)) (nb_pair ?h3) (m := 3) (nb_pair (es := []) ?h4) ?h5 ?_); (case h1 => assumption); (case h0 => walk_at "mem"); (case g1 => walk_at "ist"); (case g2 => walk_at "mem"); (case g3 => walk_at "ln"); (case g4 => walk_at "ist"); (case g5 => walk_at "mem"); (case g6 => walk_at "ln"); (case g7 => walk_at "isl"); (case h3 => first | assumption | exact chg_ok 11 (by omega)); (case h4 => simp); (case h5 => assumption))))
local macro_rules | `(tactic| walk_at "c") => `(tactic| ((with_reducible refine gateIx ?_); first
      | ((with_reducible refine' s_ix_C ?h1 ?h5 ?h0 (fun _ _ => ?_)); (case h1 => assumption); (case h5 => assumption); (case h0 => walk_at "mem"))))
def top (i : Nat) : Stmt := PySem.Challenge.pw_volumemend_k82_whole_mended_again.main.body.getD i (.Pass ⟨0, 0, 0, 0⟩)
abbrev s_Layout_record_at : Stmt := inClass (top 18) 2
theorem sc_Layout_record_at : FnScope ["self", "number"] ["self", "number"] (defScope s_Layout_record_at) := ⟨rfl, rfl, rfl, by decide +kernel, rfl, by decide +kernel, by decide +kernel⟩
abbrev s_wrong_sizes : Stmt := top 33
theorem sc_wrong_sizes : FnScope ["layout", "volume", "found", "number", "block", "kind", "size"] ["layout", "volume"] (defScope s_wrong_sizes) := ⟨rfl, rfl, rfl, by decide +kernel, rfl, by decide +kernel, by decide +kernel⟩
abbrev s_wrong_kinds : Stmt := top 32
theorem sc_wrong_kinds : FnScope ["layout", "volume", "found", "number", "block", "kind"] ["layout", "volume"] (defScope s_wrong_kinds) := ⟨rfl, rfl, rfl, by decide +kernel, rfl, by decide +kernel, by decide +kernel⟩
abbrev s_check_of : Stmt := top 3
theorem sc_check_of : FnScope ["numbers", "total", "at"] ["numbers"] (defScope s_check_of) := ⟨rfl, rfl, rfl, by decide +kernel, rfl, by decide +kernel, by decide +kernel⟩
abbrev s_journal_check : Stmt := top 24
theorem sc_journal_check : FnScope ["count", "targets", "rows", "numbers", "row"] ["count", "targets", "rows"] (defScope s_journal_check) := ⟨rfl, rfl, rfl, by decide +kernel, rfl, by decide +kernel, by decide +kernel⟩
abbrev s_Layout_many : Stmt := inClass (top 18) 1
theorem sc_Layout_many : FnScope ["self"] ["self"] (defScope s_Layout_many) := ⟨rfl, rfl, rfl, by decide +kernel, rfl, by decide +kernel, by decide +kernel⟩
abbrev s_Layout_is_home : Stmt := inClass (top 18) 6
theorem sc_Layout_is_home : FnScope ["self", "number"] ["self", "number"] (defScope s_Layout_is_home) := ⟨rfl, rfl, rfl, by decide +kernel, rfl, by decide +kernel, by decide +kernel⟩
abbrev s_are_homes : Stmt := top 25
theorem sc_are_homes : FnScope ["layout", "targets", "at"] ["layout", "targets"] (defScope s_are_homes) := ⟨rfl, rfl, rfl, by decide +kernel, rfl, by decide +kernel, by decide +kernel⟩
abbrev s_is_whole : Stmt := top 26
theorem sc_is_whole : FnScope ["layout", "volume", "head", "count", "targets"] ["layout", "volume"] (defScope s_is_whole) := ⟨rfl, rfl, rfl, by decide +kernel, rfl, by decide +kernel, by decide +kernel⟩
abbrev s_wrong_journal : Stmt := top 31
theorem sc_wrong_journal : FnScope ["layout", "volume", "head", "found", "at", "place", "number"] ["layout", "volume"] (defScope s_wrong_journal) := ⟨rfl, rfl, rfl, by decide +kernel, rfl, by decide +kernel, by decide +kernel⟩
abbrev s_head_row : Stmt := top 4
theorem sc_head_row : FnScope ["layout", "label", "row"] ["layout", "label"] (defScope s_head_row) := ⟨rfl, rfl, rfl, by decide +kernel, rfl, by decide +kernel, by decide +kernel⟩
abbrev s_due_head : Stmt := top 29
theorem sc_due_head : FnScope ["layout", "volume", "row"] ["layout", "volume"] (defScope s_due_head) := ⟨rfl, rfl, rfl, by decide +kernel, rfl, by decide +kernel, by decide +kernel⟩
abbrev s_wrong_heads : Stmt := top 30
theorem sc_wrong_heads : FnScope ["layout", "volume", "due", "found", "block", "place"] ["layout", "volume"] (defScope s_wrong_heads) := ⟨rfl, rfl, rfl, by decide +kernel, rfl, by decide +kernel, by decide +kernel⟩
abbrev s_wrong_bounds : Stmt := top 28
theorem sc_wrong_bounds : FnScope ["layout", "volume", "found", "block", "place"] ["layout", "volume"] (defScope s_wrong_bounds) := ⟨rfl, rfl, rfl, by decide +kernel, rfl, by decide +kernel, by decide +kernel⟩
abbrev s_wrong_early : Stmt := top 60
theorem sc_wrong_early : FnScope ["layout", "volume", "clause"] ["layout", "volume", "clause"] (defScope s_wrong_early) := ⟨rfl, rfl, rfl, by decide +kernel, rfl, by decide +kernel, by decide +kernel⟩
abbrev s_Layout_data_at : Stmt := inClass (top 18) 4
theorem sc_Layout_data_at : FnScope ["self", "place"] ["self", "place"] (defScope s_Layout_data_at) := ⟨rfl, rfl, rfl, by decide +kernel, rfl, by decide +kernel, by decide +kernel⟩
abbrev s_map_row : Stmt := top 36
theorem sc_map_row : FnScope ["layout", "blocks", "row", "number", "k", "i"] ["layout", "blocks"] (defScope s_map_row) := ⟨rfl, rfl, rfl, by decide +kernel, rfl, by decide +kernel, by decide +kernel⟩
abbrev s_is_file : Stmt := top 43
theorem sc_is_file : FnScope ["layout", "volume", "f"] ["layout", "volume", "f"] (defScope s_is_file) := ⟨rfl, rfl, rfl, by decide +kernel, rfl, by decide +kernel, by decide +kernel⟩
abbrev s_Layout_is_data : Stmt := inClass (top 18) 5
theorem sc_Layout_is_data : FnScope ["self", "number"] ["self", "number"] (defScope s_Layout_is_data) := ⟨rfl, rfl, rfl, by decide +kernel, rfl, by decide +kernel, by decide +kernel⟩
abbrev s_walk_pointer : Stmt := top 45
theorem sc_walk_pointer : FnScope ["layout", "volume", "place", "wanted", "walked", "taken", "wrong", "number"] ["layout", "volume", "place", "wanted", "walked"] (defScope s_walk_pointer) := ⟨rfl, rfl, rfl, by decide +kernel, rfl, by decide +kernel, by decide +kernel⟩
abbrev s_walk_file : Stmt := top 46
theorem sc_walk_file : FnScope ["layout", "volume", "f", "walked", "block", "size", "k"] ["layout", "volume", "f", "walked"] (defScope s_walk_file) := ⟨rfl, rfl, rfl, by decide +kernel, rfl, by decide +kernel, by decide +kernel⟩
abbrev s_walk_files : Stmt := top 47
theorem sc_walk_files : FnScope ["layout", "volume", "walked", "f"] ["layout", "volume"] (defScope s_walk_files) := ⟨rfl, rfl, rfl, by decide +kernel, rfl, by decide +kernel, by decide +kernel⟩
abbrev s_wrong_map : Stmt := top 49
theorem sc_wrong_map : FnScope ["layout", "volume", "due", "k"] ["layout", "volume"] (defScope s_wrong_map) := ⟨rfl, rfl, rfl, by decide +kernel, rfl, by decide +kernel, by decide +kernel⟩
abbrev s_is_folder : Stmt := top 42
theorem sc_is_folder : FnScope ["layout", "volume", "f"] ["layout", "volume", "f"] (defScope s_is_folder) := ⟨rfl, rfl, rfl, by decide +kernel, rfl, by decide +kernel, by decide +kernel⟩
abbrev s_in_use : Stmt := top 44
theorem sc_in_use : FnScope ["layout", "volume", "f"] ["layout", "volume"] (defScope s_in_use) := ⟨rfl, rfl, rfl, by decide +kernel, rfl, by decide +kernel, by decide +kernel⟩
abbrev s_is_right : Stmt := top 50
theorem sc_is_right : FnScope ["layout", "volume", "told", "right", "folder", "name", "file", "s", "where", "word", "other"] ["layout", "volume", "told", "right"] (defScope s_is_right) := ⟨rfl, rfl, rfl, by decide +kernel, rfl, by decide +kernel, by decide +kernel⟩
abbrev s_Layout_names_at : Stmt := inClass (top 18) 3
theorem sc_Layout_names_at : FnScope ["self", "number"] ["self", "number"] (defScope s_Layout_names_at) := ⟨rfl, rfl, rfl, by decide +kernel, rfl, by decide +kernel, by decide +kernel⟩
abbrev s_slot_at : Stmt := top 39
theorem sc_slot_at : FnScope ["layout", "s", "number", "half"] ["layout", "s"] (defScope s_slot_at) := ⟨rfl, rfl, rfl, by decide +kernel, rfl, by decide +kernel, by decide +kernel⟩
abbrev s_slot : Stmt := top 40
theorem sc_slot : FnScope ["layout", "volume", "s", "block", "place"] ["layout", "volume", "s"] (defScope s_slot) := ⟨rfl, rfl, rfl, by decide +kernel, rfl, by decide +kernel, by decide +kernel⟩
abbrev s_right_slots : Stmt := top 51
theorem sc_right_slots : FnScope ["layout", "volume", "right", "s", "numbers"] ["layout", "volume"] (defScope s_right_slots) := ⟨rfl, rfl, rfl, by decide +kernel, rfl, by decide +kernel, by decide +kernel⟩
abbrev s_named : Stmt := top 55
theorem sc_named : FnScope ["layout", "volume", "found", "s", "folder", "name", "file"] ["layout", "volume"] (defScope s_named) := ⟨rfl, rfl, rfl, by decide +kernel, rfl, by decide +kernel, by decide +kernel⟩
abbrev s_wrong_counts : Stmt := top 57
theorem sc_wrong_counts : FnScope ["layout", "volume", "many", "found", "f"] ["layout", "volume"] (defScope s_wrong_counts) := ⟨rfl, rfl, rfl, by decide +kernel, rfl, by decide +kernel, by decide +kernel⟩
abbrev s_wrong_found : Stmt := top 56
theorem sc_wrong_found : FnScope ["layout", "volume", "many", "found", "f", "due"] ["layout", "volume"] (defScope s_wrong_found) := ⟨rfl, rfl, rfl, by decide +kernel, rfl, by decide +kernel, by decide +kernel⟩
abbrev s_ring_of : Stmt := top 53
theorem sc_ring_of : FnScope ["ups", "folder", "found"] ["ups", "folder"] (defScope s_ring_of) := ⟨rfl, rfl, rfl, by decide +kernel, rfl, by decide +kernel, by decide +kernel⟩
abbrev s_wrong_rings : Stmt := top 54
theorem sc_wrong_rings : FnScope ["layout", "volume", "ups", "s", "folder", "name", "file", "found"] ["layout", "volume"] (defScope s_wrong_rings) := ⟨rfl, rfl, rfl, by decide +kernel, rfl, by decide +kernel, by decide +kernel⟩
abbrev s_wrong_names : Stmt := top 52
theorem sc_wrong_names : FnScope ["layout", "volume", "right", "found", "s", "told"] ["layout", "volume"] (defScope s_wrong_names) := ⟨rfl, rfl, rfl, by decide +kernel, rfl, by decide +kernel, by decide +kernel⟩
abbrev s_wrong_pieces : Stmt := top 48
theorem sc_wrong_pieces : FnScope ["layout", "volume"] ["layout", "volume"] (defScope s_wrong_pieces) := ⟨rfl, rfl, rfl, by decide +kernel, rfl, by decide +kernel, by decide +kernel⟩
abbrev s_is_number : Stmt := top 19
theorem sc_is_number : FnScope ["thing"] ["thing"] (defScope s_is_number) := ⟨rfl, rfl, rfl, by decide +kernel, rfl, by decide +kernel, by decide +kernel⟩
abbrev s_is_row : Stmt := top 20
theorem sc_is_row : FnScope ["row", "number"] ["row"] (defScope s_is_row) := ⟨rfl, rfl, rfl, by decide +kernel, rfl, by decide +kernel, by decide +kernel⟩
abbrev s_check_form : Stmt := top 21
theorem sc_check_form : FnScope ["layout", "volume", "at"] ["layout", "volume"] (defScope s_check_form) := ⟨rfl, rfl, rfl, by decide +kernel, rfl, by decide +kernel, by decide +kernel⟩
abbrev s_wrong : Stmt := top 61
theorem sc_wrong : FnScope ["layout", "volume", "clause"] ["layout", "volume", "clause"] (defScope s_wrong) := ⟨rfl, rfl, rfl, by decide +kernel, rfl, by decide +kernel, by decide +kernel⟩
abbrev s_faults : Stmt := top 63
theorem sc_faults : FnScope ["layout", "volume", "clause"] ["layout", "volume"] (defScope s_faults) := ⟨rfl, rfl, rfl, by decide +kernel, rfl, by decide +kernel, by decide +kernel⟩
abbrev s_mend : Stmt := top 62
theorem sc_mend : FnScope ["layout", "volume", "rows", "changes", "clause", "block", "place", "number", "row"] ["layout", "volume"] (defScope s_mend) := ⟨rfl, rfl, rfl, by decide +kernel, rfl, by decide +kernel, by decide +kernel⟩
abbrev s__law_words : Stmt := top 74
theorem sc__law_words : FnScope ["_law_found", "_law_words_here", "_law_word"] ["_law_found"] (defScope s__law_words) := ⟨rfl, rfl, rfl, by decide +kernel, rfl, by decide +kernel, by decide +kernel⟩
abbrev s__law_wild : Stmt := top 69
theorem sc__law_wild : FnScope ["_law_number", "_law_many", "_law_value", "_law_some"] ["_law_number", "_law_many"] (defScope s__law_wild) := ⟨rfl, rfl, rfl, by decide +kernel, rfl, by decide +kernel, by decide +kernel⟩
abbrev s__law_pointer : Stmt := top 68
theorem sc__law_pointer : FnScope ["_law_x", "_law_first", "_law_data"] ["_law_x", "_law_first", "_law_data"] (defScope s__law_pointer) := ⟨rfl, rfl, rfl, by decide +kernel, rfl, by decide +kernel, by decide +kernel⟩
abbrev s__law_mixed : Stmt := top 66
theorem sc__law_mixed : FnScope ["_law_cell", "_law_k", "_law_number"] ["_law_cell", "_law_k"] (defScope s__law_mixed) := ⟨rfl, rfl, rfl, by decide +kernel, rfl, by decide +kernel, by decide +kernel⟩
abbrev s__law_slots : Stmt := top 70
theorem sc__law_slots : FnScope ["_law_cell", "_law_files", "_law_row", "_law_k", "_law_x"] ["_law_cell", "_law_files"] (defScope s__law_slots) := ⟨rfl, rfl, rfl, by decide +kernel, rfl, by decide +kernel, by decide +kernel⟩
abbrev s__law_head : Stmt := top 67
theorem sc__law_head : FnScope ["_law_sizes", "_law_label", "_law_row", "_law_k", "_law_number"] ["_law_sizes", "_law_label"] (defScope s__law_head) := ⟨rfl, rfl, rfl, by decide +kernel, rfl, by decide +kernel, by decide +kernel⟩
abbrev s__law_block : Stmt := top 71
theorem sc__law_block : FnScope ["_law_b", "_law_cell", "_law_way", "_law_sizes", "_law_files", "_law_slots_here", "_law_data", "_law_first", "_law_xs", "_law_told", "_law_k", "_law_x"] ["_law_b", "_law_cell", "_law_way", "_law_sizes"] (defScope s__law_block) := ⟨rfl, rfl, rfl, by decide +kernel, rfl, by decide +kernel, by decide +kernel⟩
abbrev s__law_cell_at : Stmt := top 65
theorem sc__law_cell_at : FnScope ["_law_script", "_law_k"] ["_law_script", "_law_k"] (defScope s__law_cell_at) := ⟨rfl, rfl, rfl, by decide +kernel, rfl, by decide +kernel, by decide +kernel⟩
abbrev s__law_by_digits : Stmt := top 72
theorem sc__law_by_digits : FnScope ["_law_script", "_law_many", "_law_base", "_law_rows", "_law_b", "_law_rest", "_law_row", "_law_k"] ["_law_script", "_law_many"] (defScope s__law_by_digits) := ⟨rfl, rfl, rfl, by decide +kernel, rfl, by decide +kernel, by decide +kernel⟩
abbrev s__law_volume : Stmt := top 73
theorem sc__law_volume : FnScope ["_law_script", "_law_sizes", "_law_cell", "_law_many", "_law_rows", "_law_number", "_law_b"] ["_law_script", "_law_sizes"] (defScope s__law_volume) := ⟨rfl, rfl, rfl, by decide +kernel, rfl, by decide +kernel, by decide +kernel⟩
abbrev s_Layout___init__ : Stmt := inClass (top 18) 0
theorem sc_Layout___init__ : FnScope ["self", "files", "slots", "data"] ["self", "files", "slots", "data"] (defScope s_Layout___init__) := ⟨rfl, rfl, rfl, by decide +kernel, rfl, by decide +kernel, by decide +kernel⟩
abbrev s_law : Stmt := top 75
theorem sc_law : FnScope ["_law_script", "_law_cell", "_law_sizes", "_law_layout", "_law_rows", "_law_kept", "_law_broken", "_law_mended", "_law_changes", "_law_due", "_law_again", "_law_row", "_law_clause"] ["_law_script"] (defScope s_law) := ⟨rfl, rfl, rfl, by decide +kernel, rfl, by decide +kernel, by decide +kernel⟩
def sp_Layout_record_at (K : PySem.W.Frag) : LSp := sp2 fun a n L Q => ∃ m, n = .int m ∧ Q (.int (10 + m)) L
theorem c_record_at {K : PySem.W.Frag} {a : V} {m : Int} {L : Lg} {Q : LVK} {X : LXK} (h : Q (.int (10 + m)) L) : sp_Layout_record_at K [a, .int m] L Q X := ⟨_, _, rfl, m, rfl, h⟩
local macro_rules | `(tactic| walk_at "c") => `(tactic| with_reducible refine c_record_at ?_)
def sp_wrong_sizes (K : PySem.W.Frag) : LSp := sp2 fun a b L Q => ∃ q dx F E B p as rows, a = .ref q ∧ b = .ref p ∧ inB F E B ∧ layC K q dx F E B ∈ L ∧ volC p as rows ∈ L ∧ as.length = rows.length ∧ (rows.length : Int) = 10 + F + E + B ∧ (∀ r ∈ rows, r.length = 8) ∧ ∀ r c, LdT c r (sizesM F rows) → Q (.ref r) (c :: L)
theorem c_wsizes {K : PySem.W.Frag} {q dx : Addr} {F E B : Int} {p : Addr} {as : List Addr} {rows : List (List Int)} {L : Lg} {Q : LVK} {X : LXK} (h0 : inB F E B) (h1 : layC K q dx F E B ∈ L) (h2 : volC p as rows ∈ L) (h3 : as.length = rows.length) (h4 : (rows.length : Int) = 10 + F + E + B) (h5 : ∀ r ∈ rows, r.length = 8) (h : ∀ r c, LdT c r (sizesM F rows) → Q (.ref r) (c :: L)) : sp_wrong_sizes K [.ref q, .ref p] L Q X := ⟨_, _, rfl, q, dx, F, E, B, p, as, rows, rfl, rfl, h0, h1, h2, h3, h4, h5, h⟩
local macro_rules | `(tactic| walk_at "c") => `(tactic| ((with_reducible refine' c_wsizes ?h0 ?h1 ?h2 ?h3 ?h4 ?h5 (fun _ _ _ => ?_)); (case h0 => assumption); (case h1 => walk_at "mem"); (case h2 => walk_at "mem"); (case h3 => walk_at "ln"); (case h4 => walk_at "lt"); (case h5 => walk_at "a8")))
def sp_wrong_kinds (K : PySem.W.Frag) : LSp := sp2 fun a b L Q => ∃ q dx F E B p as rows, a = .ref q ∧ b = .ref p ∧ inB F E B ∧ layC K q dx F E B ∈ L ∧ volC p as rows ∈ L ∧ as.length = rows.length ∧ (rows.length : Int) = 10 + F + E + B ∧ (∀ r ∈ rows, r.length = 8) ∧ ∀ r c, LdT c r (kindsM F rows) → Q (.ref r) (c :: L)
theorem c_wkinds {K : PySem.W.Frag} {q dx : Addr} {F E B : Int} {p : Addr} {as : List Addr} {rows : List (List Int)} {L : Lg} {Q : LVK} {X : LXK} (h0 : inB F E B) (h1 : layC K q dx F E B ∈ L) (h2 : volC p as rows ∈ L) (h3 : as.length = rows.length) (h4 : (rows.length : Int) = 10 + F + E + B) (h5 : ∀ r ∈ rows, r.length = 8) (h : ∀ r c, LdT c r (kindsM F rows) → Q (.ref r) (c :: L)) : sp_wrong_kinds K [.ref q, .ref p] L Q X := ⟨_, _, rfl, q, dx, F, E, B, p, as, rows, rfl, rfl, h0, h1, h2, h3, h4, h5, h⟩
local macro_rules | `(tactic| walk_at "c") => `(tactic| ((with_reducible refine' c_wkinds ?h0 ?h1 ?h2 ?h3 ?h4 ?h5 (fun _ _ _ => ?_)); (case h0 => assumption); (case h1 => walk_at "mem"); (case h2 => walk_at "mem"); (case h3 => walk_at "ln"); (case h4 => walk_at "lt"); (case h5 => walk_at "a8")))
def sp_check_of (K : PySem.W.Frag) : LSp := sp1 fun a L Q => ∃ p xs ns, a = .ref p ∧ IsL K L p xs ∧ IntsV xs ns ∧ ns.length ≤ 1000 ∧ Q (.int (chk ns)) L
theorem c_check_of {K : PySem.W.Frag} {p : Addr} {xs : List V} {ns : List Int} {L : Lg} {Q : LVK} {X : LXK} (h1 : IsL K L p xs) (h2 : IntsV xs ns) (h3 : ns.length ≤ 1000) (h : Q (.int (chk ns)) L) : sp_check_of K [.ref p] L Q X := ⟨_, rfl, p, xs, ns, rfl, h1, h2, h3, h⟩
local macro_rules | `(tactic| walk_at "c") => `(tactic| ((with_reducible refine' c_check_of ?h1 ?h2 ?h3 ?_); (case h1 => walk_at "isl"); (case h2 => walk_at "iv"); (case h3 => walk_at "le")))
def sp_journal_check (K : PySem.W.Frag) : LSp := sp3 fun a b d L Q => ∃ n t ts r rs RR, a = .int n ∧ b = .ref t ∧ d = .ref r ∧ At L t (.lst (ts.map V.int)) ∧ At L r (.lst (rs.map V.ref)) ∧ RowsAt L rs RR ∧ (∀ r ∈ RR, r.length = 8) ∧ ts.length ≤ 10 ∧ RR.length ≤ 10 ∧ Q (.int (chk (n :: (ts ++ RR.flatten)))) L
theorem c_jcheck {K : PySem.W.Frag} {n : Int} {t r : Addr} {ts : List Int} {rs : List Addr} {RR : List (List Int)} {L : Lg} {Q : LVK} {X : LXK} (h1 : At L t (.lst (ts.map V.int))) (h2 : At L r (.lst (rs.map V.ref))) (h3 : RowsAt L rs RR) (h4 : ∀ r ∈ RR, r.length = 8) (h5 : ts.length ≤ 10) (h6 : RR.length ≤ 10) (h : Q (.int (chk (n :: (ts ++ RR.flatten)))) L) : sp_journal_check K [.int n, .ref t, .ref r] L Q X := ⟨_, _, _, rfl, n, t, ts, r, rs, RR, rfl, rfl, rfl, h1, h2, h3, h4, h5, h6, h⟩
local macro_rules | `(tactic| walk_at "c") => `(tactic| ((with_reducible refine' c_jcheck ?h1 ?h2 ?h3 ?h4 ?h5 ?h6 ?_); (case h2 => first | walk_at "at" | walk_at "atm"); (case h1 => first | walk_at "at" | walk_at "atm"); (case h3 => first | assumption | exact RowsAt.vol (by walk_at "mem") (by assumption) _ _ | ((refine' RowsAt.snd ?s1 ?s2 ?s3); (case s2 => assumption); (case s1 => assumption); (case s3 => walk_at "mem"))); (case h4 => first | assumption | exact cut_all (by assumption) _ _); (case h5 => walk_at "le"); (case h6 => first | walk_at "le" | exact cut_lohi_len (by omega) (by omega) (by omega))))
def sp_Layout_many (K : PySem.W.Frag) : LSp := sp1 fun a L Q => ∃ p dx F E B, a = .ref p ∧ layC K p dx F E B ∈ L ∧ Q (.int (10 + F + E + B)) L
theorem c_many {K : PySem.W.Frag} {p dx : Addr} {F E B : Int} {L : Lg} {Q : LVK} {X : LXK} (h1 : layC K p dx F E B ∈ L) (h : Q (.int (10 + F + E + B)) L) : sp_Layout_many K [.ref p] L Q X := ⟨_, rfl, p, dx, F, E, B, rfl, h1, h⟩
local macro_rules | `(tactic| walk_at "c") => `(tactic| ((with_reducible refine' c_many ?h1 ?_); (case h1 => walk_at "mem")))
def sp_Layout_is_home (K : PySem.W.Frag) : LSp := sp2 fun a b L Q => ∃ q dx F E B n, a = .ref q ∧ b = .int n ∧ layC K q dx F E B ∈ L ∧ Q (.bl (decide (isHomeM F E B n))) L
theorem c_ishome {K : PySem.W.Frag} {q dx : Addr} {F E B n : Int} {L : Lg} {Q : LVK} {X : LXK} (h1 : layC K q dx F E B ∈ L) (h : Q (.bl (decide (isHomeM F E B n))) L) : sp_Layout_is_home K [.ref q, .int n] L Q X := ⟨_, _, rfl, q, dx, F, E, B, n, rfl, rfl, h1, h⟩
local macro_rules | `(tactic| walk_at "c") => `(tactic| ((with_reducible refine' c_ishome ?h1 ?_); (case h1 => walk_at "mem")))
def sp_are_homes (K : PySem.W.Frag) : LSp := sp2 fun a b L Q => ∃ (q dx : Addr) (F E B : Int) (t : Addr) (ts : List Int), a = .ref q ∧ b = .ref t ∧ layC K q dx F E B ∈ L ∧ At L t (.lst (ts.map V.int)) ∧ ts.length ≤ 10 ∧ Q (.bl (decide ((∀ x ∈ ts, isHomeM F E B x) ∧ ts.Nodup))) L
theorem c_arehomes {K : PySem.W.Frag} {q dx t : Addr} {F E B : Int} {ts : List Int} {L : Lg} {Q : LVK} {X : LXK} (h1 : layC K q dx F E B ∈ L) (h2 : At L t (.lst (ts.map V.int))) (h3 : ts.length ≤ 10) (h : Q (.bl (decide ((∀ x ∈ ts, isHomeM F E B x) ∧ ts.Nodup))) L) : sp_are_homes K [.ref q, .ref t] L Q X := ⟨_, _, rfl, q, dx, F, E, B, t, ts, rfl, rfl, h1, h2, h3, h⟩
local macro_rules | `(tactic| walk_at "c") => `(tactic| ((with_reducible refine' c_arehomes ?h1 ?h2 ?h3 ?_); (case h1 => walk_at "mem"); (case h2 => first | walk_at "at" | walk_at "atm"); (case h3 => walk_at "le")))
def sp_is_whole (K : PySem.W.Frag) : LSp := sp2 fun a b L Q => ∃ q dx F E B p as rows, a = .ref q ∧ b = .ref p ∧ inB F E B ∧ layC K q dx F E B ∈ L ∧ volC p as rows ∈ L ∧ as.length = rows.length ∧ (rows.length : Int) = 10 + F + E + B ∧ (∀ r ∈ rows, r.length = 8) ∧ Q (.bl (decide (wholeM F E B rows))) L
theorem c_iswhole {K : PySem.W.Frag} {q dx : Addr} {F E B : Int} {p : Addr} {as : List Addr} {rows : List (List Int)} {L : Lg} {Q : LVK} {X : LXK} (h0 : inB F E B) (h1 : layC K q dx F E B ∈ L) (h2 : volC p as rows ∈ L) (h3 : as.length = rows.length) (h4 : (rows.length : Int) = 10 + F + E + B) (h5 : ∀ r ∈ rows, r.length = 8) (h : Q (.bl (decide (wholeM F E B rows))) L) : sp_is_whole K [.ref q, .ref p] L Q X := ⟨_, _, rfl, q, dx, F, E, B, p, as, rows, rfl, rfl, h0, h1, h2, h3, h4, h5, h⟩
local macro_rules | `(tactic| walk_at "c") => `(tactic| ((with_reducible refine' c_iswhole ?h0 ?h1 ?h2 ?h3 ?h4 ?h5 ?_); (case h0 => assumption); (case h1 => walk_at "mem"); (case h2 => walk_at "mem"); (case h3 => walk_at "ln"); (case h4 => walk_at "lt"); (case h5 => walk_at "a8")))
def sp_wrong_journal (K : PySem.W.Frag) : LSp := sp2 fun a b L Q => ∃ q dx F E B p as rows, a = .ref q ∧ b = .ref p ∧ inB F E B ∧ layC K q dx F E B ∈ L ∧ volC p as rows ∈ L ∧ as.length = rows.length ∧ (rows.length : Int) = 10 + F + E + B ∧ (∀ r ∈ rows, r.length = 8) ∧ ∀ r c, LdT c r (journalW F E B rows) → Q (.ref r) (c :: L)
theorem c_wjournal {K : PySem.W.Frag} {q dx : Addr} {F E B : Int} {p : Addr} {as : List Addr} {rows : List (List Int)} {L : Lg} {Q : LVK} {X : LXK} (h0 : inB F E B) (h1 : layC K q dx F E B ∈ L) (h2 : volC p as rows ∈ L) (h3 : as.length = rows.length) (h4 : (rows.length : Int) = 10 + F + E + B) (h5 : ∀ r ∈ rows, r.length = 8) (h : ∀ r c, LdT c r (journalW F E B rows) → Q (.ref r) (c :: L)) : sp_wrong_journal K [.ref q, .ref p] L Q X := ⟨_, _, rfl, q, dx, F, E, B, p, as, rows, rfl, rfl, h0, h1, h2, h3, h4, h5, h⟩
local macro_rules | `(tactic| walk_at "c") => `(tactic| ((with_reducible refine' c_wjournal ?h0 ?h1 ?h2 ?h3 ?h4 ?h5 (fun _ _ _ => ?_)); (case h0 => assumption); (case h1 => walk_at "mem"); (case h2 => walk_at "mem"); (case h3 => walk_at "ln"); (case h4 => walk_at "lt"); (case h5 => walk_at "a8")))
def sp_head_row (K : PySem.W.Frag) : LSp := sp2 fun a b L Q => ∃ p dx F E B l, a = .ref p ∧ b = .int l ∧ layC K p dx F E B ∈ L ∧ ∀ r, Q (.ref r) ([(r, .lst ((headM F E B l).map V.int))] :: L)
theorem c_head_row {K : PySem.W.Frag} {p dx : Addr} {F E B l : Int} {L : Lg} {Q : LVK} {X : LXK} (h1 : layC K p dx F E B ∈ L) (h : ∀ r, Q (.ref r) ([(r, .lst ((headM F E B l).map V.int))] :: L)) : sp_head_row K [.ref p, .int l] L Q X := ⟨_, _, rfl, p, dx, F, E, B, l, rfl, rfl, h1, h⟩
local macro_rules | `(tactic| walk_at "c") => `(tactic| ((with_reducible refine' c_head_row ?h1 (fun _ => ?_)); (case h1 => walk_at "mem")))
def sp_due_head (K : PySem.W.Frag) : LSp := sp2 fun a b L Q => ∃ q dx F E B p as rows, a = .ref q ∧ b = .ref p ∧ inB F E B ∧ layC K q dx F E B ∈ L ∧ volC p as rows ∈ L ∧ as.length = rows.length ∧ (rows.length : Int) = 10 + F + E + B ∧ (∀ r ∈ rows, r.length = 8) ∧ ∀ r c, StR p as rows r c (dueH F E B rows) → Q (.ref r) (c :: L)
theorem c_duehead {K : PySem.W.Frag} {q dx : Addr} {F E B : Int} {p : Addr} {as : List Addr} {rows : List (List Int)} {L : Lg} {Q : LVK} {X : LXK} (h0 : inB F E B) (h1 : layC K q dx F E B ∈ L) (h2 : volC p as rows ∈ L) (h3 : as.length = rows.length) (h4 : (rows.length : Int) = 10 + F + E + B) (h5 : ∀ r ∈ rows, r.length = 8) (h : ∀ r c, StR p as rows r c (dueH F E B rows) → Q (.ref r) (c :: L)) : sp_due_head K [.ref q, .ref p] L Q X := ⟨_, _, rfl, q, dx, F, E, B, p, as, rows, rfl, rfl, h0, h1, h2, h3, h4, h5, h⟩
local macro_rules | `(tactic| walk_at "c") => `(tactic| ((with_reducible refine' c_duehead ?h0 ?h1 ?h2 ?h3 ?h4 ?h5 (fun _ _ _ => ?_)); (case h0 => assumption); (case h1 => walk_at "mem"); (case h2 => walk_at "mem"); (case h3 => walk_at "ln"); (case h4 => walk_at "lt"); (case h5 => walk_at "a8")))
def sp_wrong_heads (K : PySem.W.Frag) : LSp := sp2 fun a b L Q => ∃ q dx F E B p as rows, a = .ref q ∧ b = .ref p ∧ inB F E B ∧ layC K q dx F E B ∈ L ∧ volC p as rows ∈ L ∧ as.length = rows.length ∧ (rows.length : Int) = 10 + F + E + B ∧ (∀ r ∈ rows, r.length = 8) ∧ ∀ r c, LdT c r (headsM F E B rows) → Q (.ref r) (c :: L)
theorem c_wheads {K : PySem.W.Frag} {q dx : Addr} {F E B : Int} {p : Addr} {as : List Addr} {rows : List (List Int)} {L : Lg} {Q : LVK} {X : LXK} (h0 : inB F E B) (h1 : layC K q dx F E B ∈ L) (h2 : volC p as rows ∈ L) (h3 : as.length = rows.length) (h4 : (rows.length : Int) = 10 + F + E + B) (h5 : ∀ r ∈ rows, r.length = 8) (h : ∀ r c, LdT c r (headsM F E B rows) → Q (.ref r) (c :: L)) : sp_wrong_heads K [.ref q, .ref p] L Q X := ⟨_, _, rfl, q, dx, F, E, B, p, as, rows, rfl, rfl, h0, h1, h2, h3, h4, h5, h⟩
local macro_rules | `(tactic| walk_at "c") => `(tactic| ((with_reducible refine' c_wheads ?h0 ?h1 ?h2 ?h3 ?h4 ?h5 (fun _ _ _ => ?_)); (case h0 => assumption); (case h1 => walk_at "mem"); (case h2 => walk_at "mem"); (case h3 => walk_at "ln"); (case h4 => walk_at "lt"); (case h5 => walk_at "a8")))
def sp_wrong_bounds (K : PySem.W.Frag) : LSp := sp2 fun x0_ x1_ L Q => ∃ (q : Addr) (dx : Addr) (F : Int) (E : Int) (B : Int) (p : Addr) (as : List Addr) (rows : List (List Int)), x0_ = .ref q ∧ x1_ = .ref p ∧ inB F E B ∧ layC K q dx F E B ∈ L ∧ volC p as rows ∈ L ∧ as.length = rows.length ∧ (rows.length : Int) = 10 + F + E + B ∧ (∀ r ∈ rows, r.length = 8) ∧ (∀ r c, LdT c r (boundsW rows) → Q (.ref r) (c :: L))
theorem c_wrong_bounds {K : PySem.W.Frag} {q : Addr} {dx : Addr} {F : Int} {E : Int} {B : Int} {p : Addr} {as : List Addr} {rows : List (List Int)} {L : Lg} {Q : LVK} {X : LXK} (hb : inB F E B) (hm : layC K q dx F E B ∈ L) (hv : volC p as rows ∈ L) (hl : as.length = rows.length) (hn : (rows.length : Int) = 10 + F + E + B) (h8 : ∀ r ∈ rows, r.length = 8) (h_ : ∀ r c, LdT c r (boundsW rows) → Q (.ref r) (c :: L)) : sp_wrong_bounds K [.ref q, .ref p] L Q X := ⟨_, _, rfl, q, dx, F, E, B, p, as, rows, rfl, rfl, hb, hm, hv, hl, hn, h8, h_⟩
local macro_rules | `(tactic| walk_at "c") => `(tactic| ((with_reducible refine' c_wrong_bounds ?p0_ ?p1_ ?p2_ ?p3_ ?p4_ ?p5_ (fun _ _ _ => ?_)); (case p0_ => first | assumption | (unfold inB; omega)); (case p1_ => walk_at "mem"); (case p2_ => walk_at "mem"); (case p3_ => walk_at "ln"); (case p4_ => walk_at "lt"); (case p5_ => walk_at "a8")))
def sp_wrong_early (K : PySem.W.Frag) : LSp := sp3 fun a b d L Q => ∃ q dx F E B p as rows cl ts, a = .ref q ∧ b = .ref p ∧ d = .str cl ∧ inB F E B ∧ layC K q dx F E B ∈ L ∧ volC p as rows ∈ L ∧ as.length = rows.length ∧ (rows.length : Int) = 10 + F + E + B ∧ (∀ r ∈ rows, r.length = 8) ∧ (∃ i, i < 5 ∧ cl = CLn i ∧ ts = wlM F E B i rows) ∧ ∀ r c, LdT c r ts → Q (.ref r) (c :: L)
theorem c_wearly {K : PySem.W.Frag} {q dx : Addr} {F E B : Int} {p : Addr} {as : List Addr} {rows : List (List Int)} {cl : Str} {L : Lg} {Q : LVK} {X : LXK} (i : Nat) (h6 : cl = CLn i) (h7 : i < 5) (h0 : inB F E B) (h1 : layC K q dx F E B ∈ L) (h2 : volC p as rows ∈ L) (h3 : as.length = rows.length) (h4 : (rows.length : Int) = 10 + F + E + B) (h5 : ∀ r ∈ rows, r.length = 8) (h : ∀ r c, LdT c r (wlM F E B i rows) → Q (.ref r) (c :: L)) : sp_wrong_early K [.ref q, .ref p, .str cl] L Q X := ⟨_, _, _, rfl, q, dx, F, E, B, p, as, rows, cl, _, rfl, rfl, rfl, h0, h1, h2, h3, h4, h5, ⟨i, h7, h6, rfl⟩, h⟩
def sp_Layout_data_at (K : PySem.W.Frag) : LSp := sp2 fun a n L Q => ∃ p dx F E B m, a = .ref p ∧ n = .int m ∧ layC K p dx F E B ∈ L ∧ Q (.int (10 + F + E + m)) L
theorem c_data_at {K : PySem.W.Frag} {p dx : Addr} {F E B m : Int} {L : Lg} {Q : LVK} {X : LXK} (h1 : layC K p dx F E B ∈ L) (h : Q (.int (10 + F + E + m)) L) : sp_Layout_data_at K [.ref p, .int m] L Q X := ⟨_, _, rfl, p, dx, F, E, B, m, rfl, rfl, h1, h⟩
local macro_rules | `(tactic| walk_at "c") => `(tactic| ((with_reducible refine' c_data_at ?h1 ?_); (case h1 => walk_at "mem")))
def sp_map_row (K : PySem.W.Frag) : LSp := sp2 fun a b L Q => ∃ q dx F E B r tk, a = .ref q ∧ b = .ref r ∧ inB F E B ∧ layC K q dx F E B ∈ L ∧ At L r (.lst (List.map V.int tk)) ∧ (∀ n ∈ tk, 10 + F + E ≤ n ∧ n < 10 + F + E + B) ∧ ∀ p, Q (.ref p) ([(p, .lst ((mapM (10 + F + E) tk).map V.int))] :: L)
theorem c_maprow {K : PySem.W.Frag} {q dx : Addr} {F E B : Int} {r : Addr} {tk : List Int} {L : Lg} {Q : LVK} {X : LXK} (hb : inB F E B) (h1 : layC K q dx F E B ∈ L) (h2 : At L r (.lst (List.map V.int tk))) (h3 : ∀ n ∈ tk, 10 + F + E ≤ n ∧ n < 10 + F + E + B) (h : ∀ p, Q (.ref p) ([(p, .lst ((mapM (10 + F + E) tk).map V.int))] :: L)) : sp_map_row K [.ref q, .ref r] L Q X := ⟨_, _, rfl, q, dx, F, E, B, r, tk, rfl, rfl, hb, h1, h2, h3, h⟩
local macro_rules | `(tactic| walk_at "c") => `(tactic| ((with_reducible refine' c_maprow ?hb ?h1 ?h2 ?h3 (fun _ => ?_)); (case hb => assumption); (case h1 => walk_at "mem"); (case h2 => walk_at "at"); (case h3 => first | assumption | exact (filesW_ok _).1)))
def sp_is_file (K : PySem.W.Frag) : LSp := sp3 fun a b d L Q => ∃ q dx F E B p as rows f, a = .ref q ∧ b = .ref p ∧ d = .int f ∧ layC K q dx F E B ∈ L ∧ volC p as rows ∈ L ∧ as.length = rows.length ∧ 10 + F ≤ (rows.length : Int) ∧ (∀ r ∈ rows, r.length = 8) ∧ Q (.bl (decide (0 < f ∧ f < F ∧ kindM rows f = 1))) L
theorem c_isfile {K : PySem.W.Frag} {q dx : Addr} {F E B f : Int} {p : Addr} {as : List Addr} {rows : List (List Int)} {L : Lg} {Q : LVK} {X : LXK} (h1 : layC K q dx F E B ∈ L) (h2 : volC p as rows ∈ L) (h3 : as.length = rows.length) (h4 : 10 + F ≤ (rows.length : Int)) (h5 : ∀ r ∈ rows, r.length = 8) (h : Q (.bl (decide (0 < f ∧ f < F ∧ kindM rows f = 1))) L) : sp_is_file K [.ref q, .ref p, .int f] L Q X := ⟨_, _, _, rfl, q, dx, F, E, B, p, as, rows, f, rfl, rfl, rfl, h1, h2, h3, h4, h5, h⟩
local macro_rules | `(tactic| walk_at "c") => `(tactic| ((with_reducible refine' c_isfile ?h1 ?h2 ?h3 ?h4 ?h5 ?_); (case h1 => walk_at "mem"); (case h2 => walk_at "mem"); (case h3 => walk_at "ln"); (case h4 => omega); (case h5 => walk_at "a8")))
def sp_Layout_is_data (K : PySem.W.Frag) : LSp := sp2 fun a b L Q => ∃ q dx F E B n, a = .ref q ∧ b = .int n ∧ layC K q dx F E B ∈ L ∧ Q (.bl (decide (10 + F + E ≤ n ∧ n < 10 + F + E + B))) L
theorem c_isdata {K : PySem.W.Frag} {q dx : Addr} {F E B n : Int} {L : Lg} {Q : LVK} {X : LXK} (h1 : layC K q dx F E B ∈ L) (h : Q (.bl (decide (10 + F + E ≤ n ∧ n < 10 + F + E + B))) L) : sp_Layout_is_data K [.ref q, .int n] L Q X := ⟨_, _, rfl, q, dx, F, E, B, n, rfl, rfl, h1, h⟩
local macro_rules | `(tactic| walk_at "c") => `(tactic| ((with_reducible refine' c_isdata ?h1 ?_); (case h1 => walk_at "mem")))
def sp_walk_pointer (K : PySem.W.Frag) : LSp := sp5 fun a b d e f L Q => ∃ q dx F E B p as rows t bk pl w wk T W s c L2, a = .ref q ∧ b = .ref p ∧ d = .ref t ∧ e = .bl w ∧ f = .ref wk ∧ L = [(T, HO.dK (kvT s.1))] :: c :: L2 ∧ LdT c W s.2 ∧ layC K q dx F E B ∈ L2 ∧ volC p as rows ∈ L2 ∧ as.length = rows.length ∧ (∀ r ∈ rows, r.length = 8) ∧ ((0 : Int) ≤ bk ∧ bk < rows.length ∧ (0 : Int) ≤ pl ∧ pl < 8) ∧ At L2 t (.tup [.int bk, .int pl]) ∧ At L2 wk (.tup [.ref T, .ref W]) ∧ sz2 s ≤ 900000 ∧ ∀ c', LdT c' W (jud rows (10 + F + E) (10 + F + E + B) bk pl w s).2.2 → Q (.bl (jud rows (10 + F + E) (10 + F + E + B) bk pl w s).1) ([(T, HO.dK (kvT (jud rows (10 + F + E) (10 + F + E + B) bk pl w s).2.1))] :: c' :: L2)
theorem c_wp {K : PySem.W.Frag} {q dx : Addr} {F E B bk pl : Int} {p t wk T W : Addr} {as : List Addr} {rows : List (List Int)} {w : Bool} {s : St2} {c : Chunk} {L L1 L2 : Lg} {Q : LVK} {X : LXK} (h0 : At L wk (.tup [.ref T, .ref W])) (hc : LdT c W s.2) (p1 : Pull [(T, HO.dK (kvT s.1))] L L1) (p2 : Pull c L1 L2) (h1 : layC K q dx F E B ∈ L2) (h2 : volC p as rows ∈ L2) (h3 : as.length = rows.length) (h5 : ∀ r ∈ rows, r.length = 8) (h6 : At L2 t (.tup [.int bk, .int pl])) (h7 : At L2 wk (.tup [.ref T, .ref W])) (h8 : 0 ≤ bk ∧ bk < rows.length ∧ 0 ≤ pl ∧ pl < 8) (h9 : sz2 s ≤ 900000) (h : ∀ c', LdT c' W (jud rows (10 + F + E) (10 + F + E + B) bk pl w s).2.2 → Q (.bl (jud rows (10 + F + E) (10 + F + E + B) bk pl w s).1) ([(T, HO.dK (kvT (jud rows (10 + F + E) (10 + F + E + B) bk pl w s).2.1))] :: c' :: L2)) : Wk (fun L0 => sp_walk_pointer K [.ref q, .ref p, .ref t, .bl w, .ref wk] L0 Q X) L :=
  Wk.by_ (LicS.lic (LicS.pull p1 (LicS.pull p2 LicS.refl))) ⟨_, _, _, _, _, rfl, q, dx, F, E, B, p, as, rows, t, bk, pl, w, wk, T, W, s, c, L2, rfl, rfl, rfl, rfl, rfl, rfl, hc, h1, h2, h3, h5, h8, h6, h7, h9, h⟩
local macro_rules | `(tactic| walk_at "c") => `(tactic| ((with_reducible refine' c_wp ?h0 ?hc ?p1 ?p2 ?h1 ?h2 ?h3 ?h5 ?h6 ?h7 ?h8 ?h9 (fun _ _ => ?_)); (case h0 => walk_at "at"); (case hc => assumption); (case p1 => walk_at "pull"); (case p2 => walk_at "pull"); (case h1 => walk_at "mem"); (case h2 => walk_at "mem"); (case h3 => walk_at "ln"); (case h5 => walk_at "a8"); (case h6 => walk_at "at"); (case h7 => walk_at "at"); (case h8 => omega); (case h9 => first | assumption | omega)))
def sp_walk_file (K : PySem.W.Frag) : LSp := sp4 fun a b d e L Q => ∃ q dx F E B p as rows f wk T W s c L2, a = .ref q ∧ b = .ref p ∧ d = .int f ∧ e = .ref wk ∧ L = [(T, HO.dK (kvT s.1))] :: c :: L2 ∧ LdT c W s.2 ∧ inB F E B ∧ layC K q dx F E B ∈ L2 ∧ volC p as rows ∈ L2 ∧ as.length = rows.length ∧ (rows.length : Int) = 10 + F + E + B ∧ (∀ r ∈ rows, r.length = 8) ∧ (0 ≤ f ∧ f < F) ∧ At L2 wk (.tup [.ref T, .ref W]) ∧ sz2 s ≤ 800000 ∧ ∀ c', LdT c' W (fileW rows (10 + F + E) (10 + F + E + B) f s).2 → Q .non ([(T, HO.dK (kvT (fileW rows (10 + F + E) (10 + F + E + B) f s).1))] :: c' :: L2)
theorem c_wf {K : PySem.W.Frag} {q dx : Addr} {F E B f : Int} {p wk T W : Addr} {as : List Addr} {rows : List (List Int)} {s : St2} {c : Chunk} {L L1 L2 : Lg} {Q : LVK} {X : LXK} (h0 : At L wk (.tup [.ref T, .ref W])) (hc : LdT c W s.2) (p1 : Pull [(T, HO.dK (kvT s.1))] L L1) (p2 : Pull c L1 L2) (hb : inB F E B) (h1 : layC K q dx F E B ∈ L2) (h2 : volC p as rows ∈ L2) (h3 : as.length = rows.length) (h4 : (rows.length : Int) = 10 + F + E + B) (h5 : ∀ r ∈ rows, r.length = 8) (h7 : At L2 wk (.tup [.ref T, .ref W])) (h8 : 0 ≤ f ∧ f < F) (h9 : sz2 s ≤ 800000) (h : ∀ c', LdT c' W (fileW rows (10 + F + E) (10 + F + E + B) f s).2 → Q .non ([(T, HO.dK (kvT (fileW rows (10 + F + E) (10 + F + E + B) f s).1))] :: c' :: L2)) : Wk (fun L0 => sp_walk_file K [.ref q, .ref p, .int f, .ref wk] L0 Q X) L :=
  Wk.by_ (LicS.lic (LicS.pull p1 (LicS.pull p2 LicS.refl))) ⟨_, _, _, _, rfl, q, dx, F, E, B, p, as, rows, f, wk, T, W, s, c, L2, rfl, rfl, rfl, rfl, rfl, hc, hb, h1, h2, h3, h4, h5, h8, h7, h9, h⟩
local macro_rules | `(tactic| walk_at "c") => `(tactic| ((with_reducible refine' c_wf ?h0 ?hc ?p1 ?p2 ?hb ?h1 ?h2 ?h3 ?h4 ?h5 ?h7 ?h8 ?h9 (fun _ _ => ?_)); (case h0 => walk_at "at"); (case hc => assumption); (case p1 => walk_at "pull"); (case p2 => walk_at "pull"); (case hb => assumption); (case h1 => walk_at "mem"); (case h2 => walk_at "mem"); (case h3 => walk_at "ln"); (case h4 => walk_at "lt"); (case h5 => walk_at "a8"); (case h7 => walk_at "at"); (case h8 => omega); (case h9 => omega)))
def sp_walk_files (K : PySem.W.Frag) : LSp := sp2 fun a b L Q => ∃ q dx F E B p as rows, a = .ref q ∧ b = .ref p ∧ inB F E B ∧ layC K q dx F E B ∈ L ∧ volC p as rows ∈ L ∧ as.length = rows.length ∧ (rows.length : Int) = 10 + F + E + B ∧ (∀ r ∈ rows, r.length = 8) ∧ ∀ wk T W c, LdT c W (filesW rows (10 + F + E) (10 + F + E + B) (F - 1).toNat).2 → Q (.ref wk) ([(T, HO.dK (kvT (filesW rows (10 + F + E) (10 + F + E + B) (F - 1).toNat).1))] :: c :: [(wk, .tup [.ref T, .ref W])] :: L)
theorem c_wfs {K : PySem.W.Frag} {q dx : Addr} {F E B : Int} {p : Addr} {as : List Addr} {rows : List (List Int)} {L : Lg} {Q : LVK} {X : LXK} (hb : inB F E B) (h1 : layC K q dx F E B ∈ L) (h2 : volC p as rows ∈ L) (h3 : as.length = rows.length) (h4 : (rows.length : Int) = 10 + F + E + B) (h5 : ∀ r ∈ rows, r.length = 8) (h : ∀ wk T W c, LdT c W (filesW rows (10 + F + E) (10 + F + E + B) (F - 1).toNat).2 → Q (.ref wk) ([(T, HO.dK (kvT (filesW rows (10 + F + E) (10 + F + E + B) (F - 1).toNat).1))] :: c :: [(wk, .tup [.ref T, .ref W])] :: L)) : sp_walk_files K [.ref q, .ref p] L Q X := ⟨_, _, rfl, q, dx, F, E, B, p, as, rows, rfl, rfl, hb, h1, h2, h3, h4, h5, h⟩
local macro_rules | `(tactic| walk_at "c") => `(tactic| ((with_reducible refine' c_wfs ?hb ?h1 ?h2 ?h3 ?h4 ?h5 (fun _ _ _ _ _ => ?_)); (case hb => assumption); (case h1 => walk_at "mem"); (case h2 => walk_at "mem"); (case h3 => walk_at "ln"); (case h4 => walk_at "lt"); (case h5 => walk_at "a8")))
def sp_wrong_map (K : PySem.W.Frag) : LSp := sp2 fun a b L Q => ∃ q dx F E B p as rows, a = .ref q ∧ b = .ref p ∧ inB F E B ∧ layC K q dx F E B ∈ L ∧ volC p as rows ∈ L ∧ as.length = rows.length ∧ (rows.length : Int) = 10 + F + E + B ∧ (∀ r ∈ rows, r.length = 8) ∧ ∀ r c, LdT c r (mapW F E B rows) → Q (.ref r) (c :: L)
theorem c_wmap {K : PySem.W.Frag} {q dx : Addr} {F E B : Int} {p : Addr} {as : List Addr} {rows : List (List Int)} {L : Lg} {Q : LVK} {X : LXK} (hb : inB F E B) (h1 : layC K q dx F E B ∈ L) (h2 : volC p as rows ∈ L) (h3 : as.length = rows.length) (h4 : (rows.length : Int) = 10 + F + E + B) (h5 : ∀ r ∈ rows, r.length = 8) (h : ∀ r c, LdT c r (mapW F E B rows) → Q (.ref r) (c :: L)) : sp_wrong_map K [.ref q, .ref p] L Q X := ⟨_, _, rfl, q, dx, F, E, B, p, as, rows, rfl, rfl, hb, h1, h2, h3, h4, h5, h⟩
local macro_rules | `(tactic| walk_at "c") => `(tactic| ((with_reducible refine' c_wmap ?hb ?h1 ?h2 ?h3 ?h4 ?h5 (fun _ _ _ => ?_)); (case hb => assumption); (case h1 => walk_at "mem"); (case h2 => walk_at "mem"); (case h3 => walk_at "ln"); (case h4 => walk_at "lt"); (case h5 => walk_at "a8")))
def sp_is_folder (K : PySem.W.Frag) : LSp := sp3 fun a b d L Q => ∃ q dx F E B p as rows f, a = .ref q ∧ b = .ref p ∧ d = .int f ∧ layC K q dx F E B ∈ L ∧ volC p as rows ∈ L ∧ as.length = rows.length ∧ 10 + F ≤ (rows.length : Int) ∧ (∀ r ∈ rows, r.length = 8) ∧ Q (.bl (decide (f = 0 ∨ (0 < f ∧ f < F ∧ kindM rows f = 2)))) L
theorem c_isfolder {K : PySem.W.Frag} {q dx : Addr} {F E B f : Int} {p : Addr} {as : List Addr} {rows : List (List Int)} {L : Lg} {Q : LVK} {X : LXK} (h1 : layC K q dx F E B ∈ L) (h2 : volC p as rows ∈ L) (h3 : as.length = rows.length) (h4 : 10 + F ≤ (rows.length : Int)) (h5 : ∀ r ∈ rows, r.length = 8) (h : Q (.bl (decide (f = 0 ∨ (0 < f ∧ f < F ∧ kindM rows f = 2)))) L) : sp_is_folder K [.ref q, .ref p, .int f] L Q X := ⟨_, _, _, rfl, q, dx, F, E, B, p, as, rows, f, rfl, rfl, rfl, h1, h2, h3, h4, h5, h⟩
local macro_rules | `(tactic| walk_at "c") => `(tactic| ((with_reducible refine' c_isfolder ?h1 ?h2 ?h3 ?h4 ?h5 ?_); (case h1 => walk_at "mem"); (case h2 => walk_at "mem"); (case h3 => walk_at "ln"); (case h4 => omega); (case h5 => walk_at "a8")))
def sp_in_use (K : PySem.W.Frag) : LSp := sp2 fun x0_ x1_ L Q => ∃ (q : Addr) (dx : Addr) (F : Int) (E : Int) (B : Int) (p : Addr) (as : List Addr) (rows : List (List Int)), x0_ = .ref q ∧ x1_ = .ref p ∧ inB F E B ∧ layC K q dx F E B ∈ L ∧ volC p as rows ∈ L ∧ as.length = rows.length ∧ (rows.length : Int) = 10 + F + E + B ∧ (∀ r ∈ rows, r.length = 8) ∧ (∀ r, Q (.ref r) ([(r, .lst ((useM F rows).map V.int))] :: L))
theorem c_in_use {K : PySem.W.Frag} {q : Addr} {dx : Addr} {F : Int} {E : Int} {B : Int} {p : Addr} {as : List Addr} {rows : List (List Int)} {L : Lg} {Q : LVK} {X : LXK} (hb : inB F E B) (hm : layC K q dx F E B ∈ L) (hv : volC p as rows ∈ L) (hl : as.length = rows.length) (hn : (rows.length : Int) = 10 + F + E + B) (h8 : ∀ r ∈ rows, r.length = 8) (h_ : ∀ r, Q (.ref r) ([(r, .lst ((useM F rows).map V.int))] :: L)) : sp_in_use K [.ref q, .ref p] L Q X := ⟨_, _, rfl, q, dx, F, E, B, p, as, rows, rfl, rfl, hb, hm, hv, hl, hn, h8, h_⟩
local macro_rules | `(tactic| walk_at "c") => `(tactic| ((with_reducible refine' c_in_use ?p0_ ?p1_ ?p2_ ?p3_ ?p4_ ?p5_ (fun _ => ?_)); (case p0_ => first | assumption | (unfold inB; omega)); (case p1_ => walk_at "mem"); (case p2_ => walk_at "mem"); (case p3_ => walk_at "ln"); (case p4_ => walk_at "lt"); (case p5_ => walk_at "a8")))
def sp_is_right (K : PySem.W.Frag) : LSp := sp4 fun a b d e L Q => ∃ q dx F E B p as rows t fo na fi r c rs, a = .ref q ∧ b = .ref p ∧ d = .ref t ∧ e = .ref r ∧ layC K q dx F E B ∈ L ∧ volC p as rows ∈ L ∧ as.length = rows.length ∧ 10 + F ≤ (rows.length : Int) ∧ (∀ r ∈ rows, r.length = 8) ∧ At L t (.tup [.int fo, .int na, .int fi]) ∧ LdT c r rs ∧ c ∈ L ∧ (∀ r ∈ rs, r.length = 4) ∧ Q (.bl (decide (rightM F rows fo na fi rs))) L
theorem c_isright {K : PySem.W.Frag} {q dx : Addr} {F E B fo na fi : Int} {p t r : Addr} {c : Chunk} {as : List Addr} {rows rs : List (List Int)} {L : Lg} {Q : LVK} {X : LXK} (h1 : layC K q dx F E B ∈ L) (h2 : volC p as rows ∈ L) (h3 : as.length = rows.length) (h4 : 10 + F ≤ (rows.length : Int)) (h5 : ∀ r ∈ rows, r.length = 8) (h6 : At L t (.tup [.int fo, .int na, .int fi])) (h7 : LdT c r rs) (h8 : c ∈ L) (h9 : ∀ r ∈ rs, r.length = 4) (h : Q (.bl (decide (rightM F rows fo na fi rs))) L) : sp_is_right K [.ref q, .ref p, .ref t, .ref r] L Q X := ⟨_, _, _, _, rfl, q, dx, F, E, B, p, as, rows, t, fo, na, fi, r, c, rs, rfl, rfl, rfl, rfl, h1, h2, h3, h4, h5, h6, h7, h8, h9, h⟩
local macro_rules | `(tactic| walk_at "c") => `(tactic| ((with_reducible refine' c_isright ?h1 ?h2 ?h3 ?h4 ?h5 ?h6 ?h7 ?h8 ?h9 ?_); (case h1 => walk_at "mem"); (case h2 => walk_at "mem"); (case h3 => walk_at "ln"); (case h4 => omega); (case h5 => walk_at "a8"); (case h6 => walk_at "at"); (case h7 => assumption); (case h8 => walk_at "mem"); (case h9 => first | assumption | exact rightsM_4 _)))
def sp_Layout_names_at (K : PySem.W.Frag) : LSp := sp2 fun a n L Q => ∃ p dx F E B m, a = .ref p ∧ n = .int m ∧ layC K p dx F E B ∈ L ∧ Q (.int (10 + F + m)) L
theorem c_names_at {K : PySem.W.Frag} {p dx : Addr} {F E B m : Int} {L : Lg} {Q : LVK} {X : LXK} (h1 : layC K p dx F E B ∈ L) (h : Q (.int (10 + F + m)) L) : sp_Layout_names_at K [.ref p, .int m] L Q X := ⟨_, _, rfl, p, dx, F, E, B, m, rfl, rfl, h1, h⟩
local macro_rules | `(tactic| walk_at "c") => `(tactic| ((with_reducible refine' c_names_at ?h1 ?_); (case h1 => walk_at "mem")))
def sp_slot_at (K : PySem.W.Frag) : LSp := sp2 fun a n L Q => ∃ p dx F E B s, a = .ref p ∧ n = .int s ∧ layC K p dx F E B ∈ L ∧ ∀ r, Q (.ref r) ([(r, .tup [.int (10 + F + s / 2), .int (s % 2 * 4)])] :: L)
theorem c_slot_at {K : PySem.W.Frag} {p dx : Addr} {F E B s : Int} {L : Lg} {Q : LVK} {X : LXK} (h1 : layC K p dx F E B ∈ L) (h : ∀ r, Q (.ref r) ([(r, .tup [.int (10 + F + s / 2), .int (s % 2 * 4)])] :: L)) : sp_slot_at K [.ref p, .int s] L Q X := ⟨_, _, rfl, p, dx, F, E, B, s, rfl, rfl, h1, h⟩
local macro_rules | `(tactic| walk_at "c") => `(tactic| ((with_reducible refine' c_slot_at ?h1 (fun _ => ?_)); (case h1 => walk_at "mem")))
def sp_slot (K : PySem.W.Frag) : LSp := sp3 fun a v n L Q => ∃ p dx F E B s q bs rows, a = .ref p ∧ v = .ref q ∧ n = .int s ∧ layC K p dx F E B ∈ L ∧ volC q bs rows ∈ L ∧ bs.length = rows.length ∧ 0 ≤ 10 + F + s / 2 ∧ 10 + F + s / 2 < rows.length ∧ ∀ r, Q (.ref r) ([(r, .tup ((slotM F rows s).map V.int))] :: L)
theorem c_slot {K : PySem.W.Frag} {p dx q : Addr} {F E B s : Int} {bs : List Addr} {rows : List (List Int)} {L : Lg} {Q : LVK} {X : LXK} (h1 : layC K p dx F E B ∈ L) (h2 : volC q bs rows ∈ L) (h3 : bs.length = rows.length) (h4 : 0 ≤ 10 + F + s / 2) (h5 : 10 + F + s / 2 < rows.length) (h6 : ∀ r ∈ rows, r.length = 8) (h : ∀ r, Q (.ref r) ([(r, .tup [.int (slG F rows s 0), .int (slG F rows s 1), .int (slG F rows s 2), .int (slG F rows s 3)])] :: L)) : sp_slot K [.ref p, .ref q, .int s] L Q X := ⟨_, _, _, rfl, p, dx, F, E, B, s, q, bs, rows, rfl, rfl, rfl, h1, h2, h3, h4, h5, fun r => by rw [slotM_eq h6 h4 h5]; exact h r⟩
local macro_rules | `(tactic| walk_at "c") => `(tactic| ((with_reducible refine' c_slot ?h1 ?h2 ?h3 ?h4 ?h5 ?h6 (fun _ => ?_)); (case h1 => walk_at "mem"); (case h2 => walk_at "mem"); (case h3 => walk_at "ln"); (case h4 => omega); (case h5 => omega); (case h6 => walk_at "a8")))
def sp_right_slots (K : PySem.W.Frag) : LSp := sp2 fun a b L Q => ∃ q dx F E B p as rows, a = .ref q ∧ b = .ref p ∧ inB F E B ∧ layC K q dx F E B ∈ L ∧ volC p as rows ∈ L ∧ as.length = rows.length ∧ (rows.length : Int) = 10 + F + E + B ∧ (∀ r ∈ rows, r.length = 8) ∧ ∀ r c, LdT c r (rightsM F rows (2 * E).toNat) → Q (.ref r) (c :: L)
theorem c_rslots {K : PySem.W.Frag} {q dx : Addr} {F E B : Int} {p : Addr} {as : List Addr} {rows : List (List Int)} {L : Lg} {Q : LVK} {X : LXK} (hb : inB F E B) (h1 : layC K q dx F E B ∈ L) (h2 : volC p as rows ∈ L) (h3 : as.length = rows.length) (h4 : (rows.length : Int) = 10 + F + E + B) (h5 : ∀ r ∈ rows, r.length = 8) (h : ∀ r c, LdT c r (rightsM F rows (2 * E).toNat) → Q (.ref r) (c :: L)) : sp_right_slots K [.ref q, .ref p] L Q X := ⟨_, _, rfl, q, dx, F, E, B, p, as, rows, rfl, rfl, hb, h1, h2, h3, h4, h5, h⟩
local macro_rules | `(tactic| walk_at "c") => `(tactic| ((with_reducible refine' c_rslots ?hb ?h1 ?h2 ?h3 ?h4 ?h5 (fun _ _ _ => ?_)); (case hb => assumption); (case h1 => walk_at "mem"); (case h2 => walk_at "mem"); (case h3 => walk_at "ln"); (case h4 => walk_at "lt"); (case h5 => walk_at "a8")))
def sp_named (K : PySem.W.Frag) : LSp := sp2 fun x0_ x1_ L Q => ∃ (q : Addr) (dx : Addr) (F : Int) (E : Int) (B : Int) (p : Addr) (as : List Addr) (rows : List (List Int)), x0_ = .ref q ∧ x1_ = .ref p ∧ inB F E B ∧ layC K q dx F E B ∈ L ∧ volC p as rows ∈ L ∧ as.length = rows.length ∧ (rows.length : Int) = 10 + F + E + B ∧ (∀ r ∈ rows, r.length = 8) ∧ (∀ r kvs, CntD kvs (rightsM F rows (2 * E).toNat) → Q (.ref r) ([(r, .dK kvs)] :: L))
theorem c_named {K : PySem.W.Frag} {q : Addr} {dx : Addr} {F : Int} {E : Int} {B : Int} {p : Addr} {as : List Addr} {rows : List (List Int)} {L : Lg} {Q : LVK} {X : LXK} (hb : inB F E B) (hm : layC K q dx F E B ∈ L) (hv : volC p as rows ∈ L) (hl : as.length = rows.length) (hn : (rows.length : Int) = 10 + F + E + B) (h8 : ∀ r ∈ rows, r.length = 8) (h_ : ∀ r kvs, CntD kvs (rightsM F rows (2 * E).toNat) → Q (.ref r) ([(r, .dK kvs)] :: L)) : sp_named K [.ref q, .ref p] L Q X := ⟨_, _, rfl, q, dx, F, E, B, p, as, rows, rfl, rfl, hb, hm, hv, hl, hn, h8, h_⟩
local macro_rules | `(tactic| walk_at "c") => `(tactic| ((with_reducible refine' c_named ?p0_ ?p1_ ?p2_ ?p3_ ?p4_ ?p5_ (fun _ _ _ => ?_)); (case p0_ => first | assumption | (unfold inB; omega)); (case p1_ => walk_at "mem"); (case p2_ => walk_at "mem"); (case p3_ => walk_at "ln"); (case p4_ => walk_at "lt"); (case p5_ => walk_at "a8")))
def sp_wrong_counts (K : PySem.W.Frag) : LSp := sp2 fun x0_ x1_ L Q => ∃ (q : Addr) (dx : Addr) (F : Int) (E : Int) (B : Int) (p : Addr) (as : List Addr) (rows : List (List Int)), x0_ = .ref q ∧ x1_ = .ref p ∧ inB F E B ∧ layC K q dx F E B ∈ L ∧ volC p as rows ∈ L ∧ as.length = rows.length ∧ (rows.length : Int) = 10 + F + E + B ∧ (∀ r ∈ rows, r.length = 8) ∧ (∀ r c, LdT c r (countW F E rows) → Q (.ref r) (c :: L))
theorem c_wrong_counts {K : PySem.W.Frag} {q : Addr} {dx : Addr} {F : Int} {E : Int} {B : Int} {p : Addr} {as : List Addr} {rows : List (List Int)} {L : Lg} {Q : LVK} {X : LXK} (hb : inB F E B) (hm : layC K q dx F E B ∈ L) (hv : volC p as rows ∈ L) (hl : as.length = rows.length) (hn : (rows.length : Int) = 10 + F + E + B) (h8 : ∀ r ∈ rows, r.length = 8) (h_ : ∀ r c, LdT c r (countW F E rows) → Q (.ref r) (c :: L)) : sp_wrong_counts K [.ref q, .ref p] L Q X := ⟨_, _, rfl, q, dx, F, E, B, p, as, rows, rfl, rfl, hb, hm, hv, hl, hn, h8, h_⟩
local macro_rules | `(tactic| walk_at "c") => `(tactic| ((with_reducible refine' c_wrong_counts ?p0_ ?p1_ ?p2_ ?p3_ ?p4_ ?p5_ (fun _ _ _ => ?_)); (case p0_ => first | assumption | (unfold inB; omega)); (case p1_ => walk_at "mem"); (case p2_ => walk_at "mem"); (case p3_ => walk_at "ln"); (case p4_ => walk_at "lt"); (case p5_ => walk_at "a8")))
def sp_wrong_found (K : PySem.W.Frag) : LSp := sp2 fun x0_ x1_ L Q => ∃ (q : Addr) (dx : Addr) (F : Int) (E : Int) (B : Int) (p : Addr) (as : List Addr) (rows : List (List Int)), x0_ = .ref q ∧ x1_ = .ref p ∧ inB F E B ∧ layC K q dx F E B ∈ L ∧ volC p as rows ∈ L ∧ as.length = rows.length ∧ (rows.length : Int) = 10 + F + E + B ∧ (∀ r ∈ rows, r.length = 8) ∧ (∀ r c, LdT c r (foundW F E rows) → Q (.ref r) (c :: L))
theorem c_wrong_found {K : PySem.W.Frag} {q : Addr} {dx : Addr} {F : Int} {E : Int} {B : Int} {p : Addr} {as : List Addr} {rows : List (List Int)} {L : Lg} {Q : LVK} {X : LXK} (hb : inB F E B) (hm : layC K q dx F E B ∈ L) (hv : volC p as rows ∈ L) (hl : as.length = rows.length) (hn : (rows.length : Int) = 10 + F + E + B) (h8 : ∀ r ∈ rows, r.length = 8) (h_ : ∀ r c, LdT c r (foundW F E rows) → Q (.ref r) (c :: L)) : sp_wrong_found K [.ref q, .ref p] L Q X := ⟨_, _, rfl, q, dx, F, E, B, p, as, rows, rfl, rfl, hb, hm, hv, hl, hn, h8, h_⟩
local macro_rules | `(tactic| walk_at "c") => `(tactic| ((with_reducible refine' c_wrong_found ?p0_ ?p1_ ?p2_ ?p3_ ?p4_ ?p5_ (fun _ _ _ => ?_)); (case p0_ => first | assumption | (unfold inB; omega)); (case p1_ => walk_at "mem"); (case p2_ => walk_at "mem"); (case p3_ => walk_at "ln"); (case p4_ => walk_at "lt"); (case p5_ => walk_at "a8")))
def sp_ring_of (K : PySem.W.Frag) : LSp := sp2 fun x0_ x1_ L Q => ∃ (u : Addr) (cu : Chunk) (ups : UpsT) (f : Int) (F : Int) (E : Int), x0_ = .ref u ∧ x1_ = .int f ∧ DicF cu u (upD dU ups) ∧ cu ∈ L ∧ UpsOk F E ups ∧ (0 ≤ f ∧ f < F ∧ F ≤ 1000) ∧ (∀ r ns, RingP ups f ns → Q (.ref r) ([(r, .lst (ns.map V.int))] :: L))
theorem c_ring_of {K : PySem.W.Frag} {u : Addr} {cu : Chunk} {ups : UpsT} {f : Int} {F : Int} {E : Int} {L : Lg} {Q : LVK} {X : LXK} (h1 : DicF cu u (upD dU ups)) (h2 : cu ∈ L) (h3 : UpsOk F E ups) (h4 : 0 ≤ f ∧ f < F ∧ F ≤ 1000) (h_ : ∀ r ns, RingP ups f ns → Q (.ref r) ([(r, .lst (ns.map V.int))] :: L)) : sp_ring_of K [.ref u, .int f] L Q X := ⟨_, _, rfl, u, cu, ups, f, F, E, rfl, rfl, h1, h2, h3, h4, h_⟩
local macro_rules | `(tactic| walk_at "c") => `(tactic| ((with_reducible refine' c_ring_of ?p0_ ?p1_ ?p2_ ?p3_ (fun _ _ _ => ?_)); (case p0_ => first | assumption | exact DicD.f (by assumption)); (case p1_ => walk_at "mem"); (case p2_ => assumption); (case p3_ => first | assumption | omega)))
def sp_wrong_rings (K : PySem.W.Frag) : LSp := sp2 fun x0_ x1_ L Q => ∃ (q : Addr) (dx : Addr) (F : Int) (E : Int) (B : Int) (p : Addr) (as : List Addr) (rows : List (List Int)), x0_ = .ref q ∧ x1_ = .ref p ∧ inB F E B ∧ layC K q dx F E B ∈ L ∧ volC p as rows ∈ L ∧ as.length = rows.length ∧ (rows.length : Int) = 10 + F + E + B ∧ (∀ r ∈ rows, r.length = 8) ∧ (∀ r c, LdT c r (ringW F (upsM2 F rows (2 * E).toNat)) → Q (.ref r) (c :: L))
theorem c_wrong_rings {K : PySem.W.Frag} {q : Addr} {dx : Addr} {F : Int} {E : Int} {B : Int} {p : Addr} {as : List Addr} {rows : List (List Int)} {L : Lg} {Q : LVK} {X : LXK} (hb : inB F E B) (hm : layC K q dx F E B ∈ L) (hv : volC p as rows ∈ L) (hl : as.length = rows.length) (hn : (rows.length : Int) = 10 + F + E + B) (h8 : ∀ r ∈ rows, r.length = 8) (h_ : ∀ r c, LdT c r (ringW F (upsM2 F rows (2 * E).toNat)) → Q (.ref r) (c :: L)) : sp_wrong_rings K [.ref q, .ref p] L Q X := ⟨_, _, rfl, q, dx, F, E, B, p, as, rows, rfl, rfl, hb, hm, hv, hl, hn, h8, h_⟩
local macro_rules | `(tactic| walk_at "c") => `(tactic| ((with_reducible refine' c_wrong_rings ?p0_ ?p1_ ?p2_ ?p3_ ?p4_ ?p5_ (fun _ _ _ => ?_)); (case p0_ => first | assumption | (unfold inB; omega)); (case p1_ => walk_at "mem"); (case p2_ => walk_at "mem"); (case p3_ => walk_at "ln"); (case p4_ => walk_at "lt"); (case p5_ => walk_at "a8")))
def sp_wrong_names (K : PySem.W.Frag) : LSp := sp2 fun a b L Q => ∃ q dx F E B p as rows, a = .ref q ∧ b = .ref p ∧ inB F E B ∧ layC K q dx F E B ∈ L ∧ volC p as rows ∈ L ∧ as.length = rows.length ∧ (rows.length : Int) = 10 + F + E + B ∧ (∀ r ∈ rows, r.length = 8) ∧ ∀ r c, LdT c r (namesW F E rows) → Q (.ref r) (c :: L)
theorem c_wnames {K : PySem.W.Frag} {q dx : Addr} {F E B : Int} {p : Addr} {as : List Addr} {rows : List (List Int)} {L : Lg} {Q : LVK} {X : LXK} (hb : inB F E B) (h1 : layC K q dx F E B ∈ L) (h2 : volC p as rows ∈ L) (h3 : as.length = rows.length) (h4 : (rows.length : Int) = 10 + F + E + B) (h5 : ∀ r ∈ rows, r.length = 8) (h : ∀ r c, LdT c r (namesW F E rows) → Q (.ref r) (c :: L)) : sp_wrong_names K [.ref q, .ref p] L Q X := ⟨_, _, rfl, q, dx, F, E, B, p, as, rows, rfl, rfl, hb, h1, h2, h3, h4, h5, h⟩
local macro_rules | `(tactic| walk_at "c") => `(tactic| ((with_reducible refine' c_wnames ?hb ?h1 ?h2 ?h3 ?h4 ?h5 (fun _ _ _ => ?_)); (case hb => assumption); (case h1 => walk_at "mem"); (case h2 => walk_at "mem"); (case h3 => walk_at "ln"); (case h4 => walk_at "lt"); (case h5 => walk_at "a8")))
def sp_wrong_pieces (K : PySem.W.Frag) : LSp := sp2 fun a b L Q => ∃ q dx F E B p as rows, a = .ref q ∧ b = .ref p ∧ inB F E B ∧ layC K q dx F E B ∈ L ∧ volC p as rows ∈ L ∧ as.length = rows.length ∧ (rows.length : Int) = 10 + F + E + B ∧ (∀ r ∈ rows, r.length = 8) ∧ ∀ r c, LdT c r (filesW rows (10 + F + E) (10 + F + E + B) (F - 1).toNat).2 → Q (.ref r) (c :: L)
theorem c_wpieces {K : PySem.W.Frag} {q dx : Addr} {F E B : Int} {p : Addr} {as : List Addr} {rows : List (List Int)} {L : Lg} {Q : LVK} {X : LXK} (hb : inB F E B) (h1 : layC K q dx F E B ∈ L) (h2 : volC p as rows ∈ L) (h3 : as.length = rows.length) (h4 : (rows.length : Int) = 10 + F + E + B) (h5 : ∀ r ∈ rows, r.length = 8) (h : ∀ r c, LdT c r (filesW rows (10 + F + E) (10 + F + E + B) (F - 1).toNat).2 → Q (.ref r) (c :: L)) : sp_wrong_pieces K [.ref q, .ref p] L Q X := ⟨_, _, rfl, q, dx, F, E, B, p, as, rows, rfl, rfl, hb, h1, h2, h3, h4, h5, h⟩
local macro_rules | `(tactic| walk_at "c") => `(tactic| ((with_reducible refine' c_wpieces ?hb ?h1 ?h2 ?h3 ?h4 ?h5 (fun _ _ _ => ?_)); (case hb => assumption); (case h1 => walk_at "mem"); (case h2 => walk_at "mem"); (case h3 => walk_at "ln"); (case h4 => walk_at "lt"); (case h5 => walk_at "a8")))
def sp_is_number (K : PySem.W.Frag) : LSp := sp1 fun a L Q => ∃ x, a = .int x ∧ Q (.bl (okN x)) L
theorem c_is_number {K : PySem.W.Frag} {x : Int} {L : Lg} {Q : LVK} {X : LXK} (h : Q (.bl (okN x)) L) : sp_is_number K [.int x] L Q X := ⟨_, rfl, x, rfl, h⟩
local macro_rules | `(tactic| walk_at "c") => `(tactic| with_reducible refine c_is_number ?_)
def sp_is_row (K : PySem.W.Frag) : LSp := sp1 fun a L Q => ∃ (p : Addr) (ns : List Int), a = .ref p ∧ At L p (.lst (ns.map V.int)) ∧ ns.length = 8 ∧ (∀ x ∈ ns, okN x = true) ∧ Q (.bl true) L
theorem c_is_row {K : PySem.W.Frag} {p : Addr} {ns : List Int} {L : Lg} {Q : LVK} {X : LXK} (h1 : At L p (.lst (ns.map V.int))) (h2 : ns.length = 8) (h3 : ∀ x ∈ ns, okN x = true) (h : Q (.bl true) L) : sp_is_row K [.ref p] L Q X := ⟨_, rfl, p, ns, rfl, h1, h2, h3, h⟩
def sp_check_form (K : PySem.W.Frag) : LSp := sp2 fun a b L Q => ∃ (q dx : Addr) (F E B : Int) (p : Addr) (as : List Addr) (rows : List (List Int)), a = .ref q ∧ b = .ref p ∧ layC K q dx F E B ∈ L ∧ volC p as rows ∈ L ∧ as.length = rows.length ∧ (rows.length : Int) = 10 + F + E + B ∧ rows.length ≤ 1000000 ∧ (∀ r ∈ rows, r.length = 8) ∧ Bnd rows ∧ Q .non L
theorem c_check_form {K : PySem.W.Frag} {q dx p : Addr} {F E B : Int} {as : List Addr} {rows : List (List Int)} {L : Lg} {Q : LVK} {X : LXK} (h1 : layC K q dx F E B ∈ L) (h2 : volC p as rows ∈ L) (h3 : as.length = rows.length) (h4 : (rows.length : Int) = 10 + F + E + B) (h5 : rows.length ≤ 1000000) (h6 : ∀ r ∈ rows, r.length = 8) (h7 : Bnd rows) (h : Q .non L) : sp_check_form K [.ref q, .ref p] L Q X := ⟨_, _, rfl, q, dx, F, E, B, p, as, rows, rfl, rfl, h1, h2, h3, h4, h5, h6, h7, h⟩
local macro_rules | `(tactic| walk_at "c") => `(tactic| ((with_reducible refine' c_check_form ?h1 ?h2 ?h3 ?h4 ?h5 ?h6 ?h7 ?_); (case h1 => walk_at "mem"); (case h2 => walk_at "mem"); (case h3 => walk_at "ln"); (case h4 => first | assumption | (rw [emptyM_len]; omega)); (case h5 => first | walk_at "le" | (rw [emptyM_len]; omega)); (case h6 => first | assumption | exact emptyM_8 _ _ _ _); (case h7 => first | assumption | (refine emptyM_b ?_ ?_ <;> first | assumption | omega))))
def sp_wrong (K : PySem.W.Frag) : LSp := sp3 fun a b d L Q => ∃ q dx F E B p as rows cl ts, a = .ref q ∧ b = .ref p ∧ d = .str cl ∧ inB F E B ∧ layC K q dx F E B ∈ L ∧ volC p as rows ∈ L ∧ as.length = rows.length ∧ (rows.length : Int) = 10 + F + E + B ∧ (∀ r ∈ rows, r.length = 8) ∧ Bnd rows ∧ WrongIs cl F E B rows ts ∧ ∀ r c, LdT c r ts → Q (.ref r) (c :: L)
theorem c_wrong {K : PySem.W.Frag} {q dx : Addr} {F E B : Int} {p : Addr} {as : List Addr} {rows : List (List Int)} {cl : Str} {ts : List (List Int)} {L : Lg} {Q : LVK} {X : LXK} (h0 : inB F E B) (h1 : layC K q dx F E B ∈ L) (h2 : volC p as rows ∈ L) (h3 : as.length = rows.length) (h4 : (rows.length : Int) = 10 + F + E + B) (h5 : ∀ r ∈ rows, r.length = 8) (h6 : Bnd rows) (h7 : WrongIs cl F E B rows ts) (h : ∀ r c, LdT c r ts → Q (.ref r) (c :: L)) : sp_wrong K [.ref q, .ref p, .str cl] L Q X := ⟨_, _, _, rfl, q, dx, F, E, B, p, as, rows, cl, ts, rfl, rfl, rfl, h0, h1, h2, h3, h4, h5, h6, h7, h⟩
local macro_rules | `(tactic| walk_at "c") => `(tactic| ((with_reducible refine' c_wrong ?h0 ?h1 ?h2 ?h3 ?h4 ?h5 ?h6 ?h7 (fun _ _ _ => ?_)); (case h0 => assumption); (case h1 => walk_at "mem"); (case h2 => walk_at "mem"); (case h3 => walk_at "ln"); (case h4 => walk_at "lt"); (case h5 => walk_at "a8"); (case h6 => walk_at "bd"); (case h7 => assumption)))
def sp_faults (K : PySem.W.Frag) : LSp := sp2 fun x0_ x1_ L Q => ∃ (q : Addr) (dx : Addr) (F : Int) (E : Int) (B : Int) (p : Addr) (as : List Addr) (rows : List (List Int)), x0_ = .ref q ∧ x1_ = .ref p ∧ inB F E B ∧ layC K q dx F E B ∈ L ∧ volC p as rows ∈ L ∧ as.length = rows.length ∧ (rows.length : Int) = 10 + F + E + B ∧ (∀ r ∈ rows, r.length = 8) ∧ Bnd rows ∧ (∀ r, Q (.ref r) ([(r, .lst ((fltN F E B rows).map V.str))] :: L))
theorem c_faults {K : PySem.W.Frag} {q : Addr} {dx : Addr} {F : Int} {E : Int} {B : Int} {p : Addr} {as : List Addr} {rows : List (List Int)} {L : Lg} {Q : LVK} {X : LXK} (hb : inB F E B) (hm : layC K q dx F E B ∈ L) (hv : volC p as rows ∈ L) (hl : as.length = rows.length) (hn : (rows.length : Int) = 10 + F + E + B) (h8 : ∀ r ∈ rows, r.length = 8) (hbd : Bnd rows) (h_ : ∀ r, Q (.ref r) ([(r, .lst ((fltN F E B rows).map V.str))] :: L)) : sp_faults K [.ref q, .ref p] L Q X := ⟨_, _, rfl, q, dx, F, E, B, p, as, rows, rfl, rfl, hb, hm, hv, hl, hn, h8, hbd, h_⟩
local macro_rules | `(tactic| walk_at "c") => `(tactic| ((with_reducible refine' c_faults ?p0_ ?p1_ ?p2_ ?p3_ ?p4_ ?p5_ ?p6_ (fun _ => ?_)); (case p0_ => first | assumption | (unfold inB; omega)); (case p1_ => walk_at "mem"); (case p2_ => walk_at "mem"); (case p3_ => walk_at "ln"); (case p4_ => walk_at "lt"); (case p5_ => walk_at "a8"); (case p6_ => walk_at "bd")))
def sp_mend (K : PySem.W.Frag) : LSp := sp2 fun x0_ x1_ L Q => ∃ (q : Addr) (dx : Addr) (F : Int) (E : Int) (B : Int) (p : Addr) (as : List Addr) (rows : List (List Int)), x0_ = .ref q ∧ x1_ = .ref p ∧ inB F E B ∧ layC K q dx F E B ∈ L ∧ volC p as rows ∈ L ∧ as.length = rows.length ∧ (rows.length : Int) = 10 + F + E + B ∧ (∀ r ∈ rows, r.length = 8) ∧ Bnd rows ∧ (∀ t p2 r as2 c, as2.length = rows.length → LdC c r (chgN F E B rows 11) → Q (.ref t) ([(t, .tup [.ref p2, .ref r])] :: volC p2 as2 (mendN F E B rows 11) :: c :: L))
theorem c_mend {K : PySem.W.Frag} {q : Addr} {dx : Addr} {F : Int} {E : Int} {B : Int} {p : Addr} {as : List Addr} {rows : List (List Int)} {L : Lg} {Q : LVK} {X : LXK} (hb : inB F E B) (hm : layC K q dx F E B ∈ L) (hv : volC p as rows ∈ L) (hl : as.length = rows.length) (hn : (rows.length : Int) = 10 + F + E + B) (h8 : ∀ r ∈ rows, r.length = 8) (hbd : Bnd rows) (h_ : ∀ t p2 r as2 c, as2.length = rows.length → LdC c r (chgN F E B rows 11) → Q (.ref t) ([(t, .tup [.ref p2, .ref r])] :: volC p2 as2 (mendN F E B rows 11) :: c :: L)) : sp_mend K [.ref q, .ref p] L Q X := ⟨_, _, rfl, q, dx, F, E, B, p, as, rows, rfl, rfl, hb, hm, hv, hl, hn, h8, hbd, h_⟩
local macro_rules | `(tactic| walk_at "c") => `(tactic| ((with_reducible refine' c_mend ?p0_ ?p1_ ?p2_ ?p3_ ?p4_ ?p5_ ?p6_ (fun _ _ _ _ _ _ _ => ?_)); (case p0_ => first | assumption | (unfold inB; omega)); (case p1_ => walk_at "mem"); (case p2_ => walk_at "mem"); (case p3_ => walk_at "ln"); (case p4_ => walk_at "lt"); (case p5_ => walk_at "a8"); (case p6_ => walk_at "bd")))
def sp__law_words (K : PySem.W.Frag) : LSp := sp1 fun x0_ L Q => ∃ (p : Addr) (ws : WsT), x0_ = .ref p ∧ At L p (.lst (ws.map V.str)) ∧ ws = CLs.filter (fun w => decide (w ∈ ws)) ∧ (Q (.bl true) L)
theorem c__law_words {K : PySem.W.Frag} {p : Addr} {ws : WsT} {L : Lg} {Q : LVK} {X : LXK} (h1 : At L p (.lst (ws.map V.str))) (h2 : ws = CLs.filter (fun w => decide (w ∈ ws))) (h_ : Q (.bl true) L) : sp__law_words K [.ref p] L Q X := ⟨_, rfl, p, ws, rfl, h1, h2, h_⟩
local macro_rules | `(tactic| walk_at "c") => `(tactic| ((with_reducible refine' c__law_words ?p0_ ?p1_ ?_); (case p0_ => walk_at "at"); (case p1_ => assumption)))
def sp__law_wild (K : PySem.W.Frag) : LSp := sp2 fun x0_ x1_ L Q => ∃ (x : Int) (m : Int), x0_ = .int x ∧ x1_ = .int m ∧ (1 ≤ m ∧ m ≤ 100) ∧ (∀ n, OkI n → Q (.int n) L)
theorem c__law_wild {K : PySem.W.Frag} {x : Int} {m : Int} {L : Lg} {Q : LVK} {X : LXK} (h2 : 1 ≤ m ∧ m ≤ 100) (h_ : ∀ n, OkI n → Q (.int n) L) : sp__law_wild K [.int x, .int m] L Q X := ⟨_, _, rfl, x, m, rfl, rfl, h2, h_⟩
local macro_rules | `(tactic| walk_at "c") => `(tactic| ((with_reducible refine' c__law_wild ?p0_ (fun _ _ => ?_)); (case p0_ => omega)))
def sp__law_pointer (K : PySem.W.Frag) : LSp := sp3 fun x0_ x1_ x2_ L Q => ∃ (x : Int) (lo : Int) (m : Int), x0_ = .int x ∧ x1_ = .int lo ∧ x2_ = .int m ∧ 0 ≤ x ∧ (2 ≤ lo ∧ lo ≤ 40 ∧ 2 ≤ m ∧ m ≤ 40) ∧ (∀ n, OkI n → Q (.int n) L)
theorem c__law_pointer {K : PySem.W.Frag} {x : Int} {lo : Int} {m : Int} {L : Lg} {Q : LVK} {X : LXK} (h1 : 0 ≤ x) (h2 : 2 ≤ lo ∧ lo ≤ 40 ∧ 2 ≤ m ∧ m ≤ 40) (h_ : ∀ n, OkI n → Q (.int n) L) : sp__law_pointer K [.int x, .int lo, .int m] L Q X := ⟨_, _, _, rfl, x, lo, m, rfl, rfl, rfl, h1, h2, h_⟩
local macro_rules | `(tactic| walk_at "c") => `(tactic| ((with_reducible refine' c__law_pointer ?p0_ ?p1_ (fun _ _ => ?_)); (case p0_ => omega); (case p1_ => omega)))
def sp__law_mixed (K : PySem.W.Frag) : LSp := sp2 fun x0_ x1_ L Q => ∃ (x : Int) (k : Int), x0_ = .int x ∧ x1_ = .int k ∧ (∀ n, RdM n → Q (.int n) L)
theorem c__law_mixed {K : PySem.W.Frag} {x : Int} {k : Int} {L : Lg} {Q : LVK} {X : LXK}  (h_ : ∀ n, RdM n → Q (.int n) L) : sp__law_mixed K [.int x, .int k] L Q X := ⟨_, _, rfl, x, k, rfl, rfl, h_⟩
local macro_rules | `(tactic| walk_at "c") => `(tactic| ((with_reducible refine' c__law_mixed  (fun _ _ => ?_))))
def sp__law_slots (K : PySem.W.Frag) : LSp := sp2 fun x0_ x1_ L Q => ∃ (x : Int) (F : Int), x0_ = .int x ∧ x1_ = .int F ∧ (2 ≤ F ∧ F ≤ 12) ∧ (∀ r ms, OkR ms → Q (.ref r) ([(r, .lst (ms.map V.int))] :: L))
theorem c__law_slots {K : PySem.W.Frag} {x : Int} {F : Int} {L : Lg} {Q : LVK} {X : LXK} (h2 : 2 ≤ F ∧ F ≤ 12) (h_ : ∀ r ms, OkR ms → Q (.ref r) ([(r, .lst (ms.map V.int))] :: L)) : sp__law_slots K [.int x, .int F] L Q X := ⟨_, _, rfl, x, F, rfl, rfl, h2, h_⟩
local macro_rules | `(tactic| walk_at "c") => `(tactic| ((with_reducible refine' c__law_slots ?p0_ (fun _ _ _ => ?_)); (case p0_ => omega)))
def sp__law_head (K : PySem.W.Frag) : LSp := sp2 fun x0_ x1_ L Q => ∃ (z : Addr) (F : Int) (E : Int) (B : Int) (f : Int), x0_ = .ref z ∧ x1_ = .int f ∧ At L z (.tup [.int F, .int E, .int B]) ∧ (∀ r, Q (.ref r) ([(r, .lst ((headM F E B f).map V.int))] :: L))
theorem c__law_head {K : PySem.W.Frag} {z : Addr} {F : Int} {E : Int} {B : Int} {f : Int} {L : Lg} {Q : LVK} {X : LXK} (h1 : At L z (.tup [.int F, .int E, .int B])) (h_ : ∀ r, Q (.ref r) ([(r, .lst ((headM F E B f).map V.int))] :: L)) : sp__law_head K [.ref z, .int f] L Q X := ⟨_, _, rfl, z, F, E, B, f, rfl, rfl, h1, h_⟩
local macro_rules | `(tactic| walk_at "c") => `(tactic| ((with_reducible refine' c__law_head ?p0_ (fun _ => ?_)); (case p0_ => first | walk_at "at" | walk_at "atm")))
def sp__law_block (K : PySem.W.Frag) : LSp := sp4 fun x0_ x1_ x2_ x3_ L Q => ∃ (b : Int) (x : Int) (m : Int) (z : Addr) (F : Int) (E : Int) (B : Int), x0_ = .int b ∧ x1_ = .int x ∧ x2_ = .int m ∧ x3_ = .ref z ∧ At L z (.tup [.int F, .int E, .int B]) ∧ (2 ≤ F ∧ F ≤ 12 ∧ 1 ≤ E ∧ E ≤ 8 ∧ 2 ≤ B ∧ B ≤ 40) ∧ (∀ r ms, OkR ms → Q (.ref r) ([(r, .lst (ms.map V.int))] :: L))
theorem c__law_block {K : PySem.W.Frag} {b : Int} {x : Int} {m : Int} {z : Addr} {F : Int} {E : Int} {B : Int} {L : Lg} {Q : LVK} {X : LXK} (h1 : At L z (.tup [.int F, .int E, .int B])) (h3 : 2 ≤ F ∧ F ≤ 12 ∧ 1 ≤ E ∧ E ≤ 8 ∧ 2 ≤ B ∧ B ≤ 40) (h_ : ∀ r ms, OkR ms → Q (.ref r) ([(r, .lst (ms.map V.int))] :: L)) : sp__law_block K [.int b, .int x, .int m, .ref z] L Q X := ⟨_, _, _, _, rfl, b, x, m, z, F, E, B, rfl, rfl, rfl, rfl, h1, h3, h_⟩
local macro_rules | `(tactic| walk_at "c") => `(tactic| ((with_reducible refine' c__law_block ?p0_ ?p1_ (fun _ _ _ => ?_)); (case p0_ => first | walk_at "at" | walk_at "atm"); (case p1_ => first | assumption | omega)))
def sp__law_cell_at (K : PySem.W.Frag) : LSp := sp2 fun a b L Q => ∃ c p ns k, a = .ref p ∧ b = .int k ∧ Scr K c p ns ∧ c ∈ L ∧ 0 ≤ k ∧ Q (.int (cellM ns k)) L
theorem c_cell_at {K : PySem.W.Frag} {c : Chunk} {p : Addr} {ns : List Int} {k : Int} {L : Lg} {Q : LVK} {E : LXK} (h1 : Scr K c p ns) (h2 : c ∈ L) (h3 : 0 ≤ k) (h : Q (.int (cellM ns k)) L) : sp__law_cell_at K [.ref p, .int k] L Q E := ⟨_, _, rfl, c, p, ns, k, rfl, rfl, h1, h2, h3, h⟩
local macro_rules | `(tactic| walk_at "c") => `(tactic| ((with_reducible refine' c_cell_at ?h1 ?h2 ?h3 ?_); (case h1 => assumption); (case h2 => walk_at "mem"); (case h3 => walk_at "ar")))
def sp__law_by_digits (K : PySem.W.Frag) : LSp := sp2 fun x0_ x1_ L Q => ∃ (c : Chunk) (p : Addr) (ns : List Int) (m : Int), x0_ = .ref p ∧ x1_ = .int m ∧ Scr K c p ns ∧ c ∈ L ∧ (1 ≤ m ∧ m ≤ 100) ∧ (∀ (r : Addr) (as : List Addr) (rows : List (List Int)), as.length = m.toNat → rows.length = m.toNat → (∀ r ∈ rows, OkR r) → Q (.ref r) (volC r as rows :: L))
theorem c__law_by_digits {K : PySem.W.Frag} {c : Chunk} {p : Addr} {ns : List Int} {m : Int} {L : Lg} {Q : LVK} {X : LXK} (h1 : Scr K c p ns) (h2 : c ∈ L) (h3 : 1 ≤ m ∧ m ≤ 100) (h_ : ∀ (r : Addr) (as : List Addr) (rows : List (List Int)), as.length = m.toNat → rows.length = m.toNat → (∀ r ∈ rows, OkR r) → Q (.ref r) (volC r as rows :: L)) : sp__law_by_digits K [.ref p, .int m] L Q X := ⟨_, _, rfl, c, p, ns, m, rfl, rfl, h1, h2, h3, h_⟩
local macro_rules | `(tactic| walk_at "c") => `(tactic| ((with_reducible refine' c__law_by_digits ?p0_ ?p1_ ?p2_ (fun _ _ _ _ _ _ => ?_)); (case p0_ => assumption); (case p1_ => walk_at "mem"); (case p2_ => omega)))
def sp__law_volume (K : PySem.W.Frag) : LSp := sp2 fun x0_ x1_ L Q => ∃ (c : Chunk) (p : Addr) (ns : List Int) (z : Addr) (F : Int) (E : Int) (B : Int), x0_ = .ref p ∧ x1_ = .ref z ∧ Scr K c p ns ∧ c ∈ L ∧ ns.length ≤ 63 ∧ At L z (.tup [.int F, .int E, .int B]) ∧ (2 ≤ F ∧ F ≤ 12 ∧ 1 ≤ E ∧ E ≤ 8 ∧ 2 ≤ B ∧ B ≤ 40) ∧ (∀ (r : Addr) (as : List Addr) (rows : List (List Int)), as.length = rows.length → (rows.length : Int) = 10 + F + E + B → (∀ r ∈ rows, r.length = 8) → Bnd rows → Q (.ref r) (volC r as rows :: L))
theorem c__law_volume {K : PySem.W.Frag} {c : Chunk} {p : Addr} {ns : List Int} {z : Addr} {F : Int} {E : Int} {B : Int} {L : Lg} {Q : LVK} {X : LXK} (h1 : Scr K c p ns) (h2 : c ∈ L) (h3 : ns.length ≤ 63) (h4 : At L z (.tup [.int F, .int E, .int B])) (h5 : 2 ≤ F ∧ F ≤ 12 ∧ 1 ≤ E ∧ E ≤ 8 ∧ 2 ≤ B ∧ B ≤ 40) (h_ : ∀ (r : Addr) (as : List Addr) (rows : List (List Int)), as.length = rows.length → (rows.length : Int) = 10 + F + E + B → (∀ r ∈ rows, r.length = 8) → Bnd rows → Q (.ref r) (volC r as rows :: L)) : sp__law_volume K [.ref p, .ref z] L Q X := ⟨_, _, rfl, c, p, ns, z, F, E, B, rfl, rfl, h1, h2, h3, h4, h5, h_⟩
local macro_rules | `(tactic| walk_at "c") => `(tactic| ((with_reducible refine' c__law_volume ?p0_ ?p1_ ?p2_ ?p3_ ?p4_ (fun _ _ _ _ _ _ _ => ?_)); (case p0_ => assumption); (case p1_ => walk_at "mem"); (case p2_ => assumption); (case p3_ => first | walk_at "at" | walk_at "atm"); (case p4_ => first | assumption | omega)))
def sp_Layout___init__ (K : PySem.W.Frag) : LSp := sp4 fun a x y z L Q => ∃ p dx F E B L1, a = .ref p ∧ x = .int F ∧ y = .int E ∧ z = .int B ∧ inB F E B ∧ L = [(p, .ins (He.ga K "Layout") dx [])] :: L1 ∧ Q .non (layC K p dx F E B :: L1)
theorem c_layout {K : PySem.W.Frag} {p dx : Addr} {F E B : Int} {L1 : Lg} {Q : LVK} {X : LXK} (h1 : inB F E B) (h : Q .non (layC K p dx F E B :: L1)) : sp_Layout___init__ K [.ref p, .int F, .int E, .int B] ([(p, .ins (He.ga K "Layout") dx [])] :: L1) Q X := ⟨_, _, _, _, rfl, p, dx, F, E, B, L1, rfl, rfl, rfl, rfl, h1, rfl, h⟩
local macro_rules | `(tactic| walk_at "c") => `(tactic| ((with_reducible refine' c_layout ?h1 ?_); (case h1 => first | assumption | (unfold inB; omega))))
def sp_law (K : PySem.W.Frag) : LSp := spTrue K 63
structure Txt (K : PySem.W.Frag) (mg : Str → Option Value) : Prop where
  i_RECORDS : ∃ t, mg "RECORDS" = some (.int (10) t)
  f_wrong_sizes : ∃ fd, FunD K "wrong_sizes" "wrong_sizes" (defArgs s_wrong_sizes) (defBody s_wrong_sizes) (defScope s_wrong_sizes) ([] : List V) [] (He.fAd K ("wrong_sizes", none)) fd
  g_wrong_sizes : mg "wrong_sizes" = some (.ref (He.ga K "wrong_sizes"))
  f_Layout_record_at : ∃ fd, FunD K "record_at" "Layout.record_at" (defArgs s_Layout_record_at) (defBody s_Layout_record_at) (defScope s_Layout_record_at) ([] : List V) [] (He.fAd K ("Layout", some "record_at")) fd
  n_range : mg "range" = none
  i_MOST : ∃ t, mg "MOST" = some (.int (88) t)
  cl_Layout : Cls K (He.ga K "Layout")
  me_Layout_record_at : Meth K (He.ga K "Layout") "record_at" (He.ma K (He.ga K "Layout") "record_at")
  na_Layout_files : NoAttr K (He.ga K "Layout") "files"
  f_wrong_kinds : ∃ fd, FunD K "wrong_kinds" "wrong_kinds" (defArgs s_wrong_kinds) (defBody s_wrong_kinds) (defScope s_wrong_kinds) ([] : List V) [] (He.fAd K ("wrong_kinds", none)) fd
  g_wrong_kinds : mg "wrong_kinds" = some (.ref (He.ga K "wrong_kinds"))
  f_check_of : ∃ fd, FunD K "check_of" "check_of" (defArgs s_check_of) (defBody s_check_of) (defScope s_check_of) ([] : List V) [] (He.fAd K ("check_of", none)) fd
  g_check_of : mg "check_of" = some (.ref (He.ga K "check_of"))
  n_len : mg "len" = none
  i_PRIME : ∃ t, mg "PRIME" = some (.int (1000003) t)
  f_journal_check : ∃ fd, FunD K "journal_check" "journal_check" (defArgs s_journal_check) (defBody s_journal_check) (defScope s_journal_check) ([] : List V) [] (He.fAd K ("journal_check", none)) fd
  g_journal_check : mg "journal_check" = some (.ref (He.ga K "journal_check"))
  na_Layout_slots : NoAttr K (He.ga K "Layout") "slots"
  na_Layout_data : NoAttr K (He.ga K "Layout") "data"
  f_Layout_many : ∃ fd, FunD K "many" "Layout.many" (defArgs s_Layout_many) (defBody s_Layout_many) (defScope s_Layout_many) ([] : List V) [] (He.fAd K ("Layout", some "many")) fd
  i_MAP : ∃ t, mg "MAP" = some (.int (2) t)
  me_Layout_many : Meth K (He.ga K "Layout") "many" (He.ma K (He.ga K "Layout") "many")
  f_are_homes : ∃ fd, FunD K "are_homes" "are_homes" (defArgs s_are_homes) (defBody s_are_homes) (defScope s_are_homes) ([] : List V) [] (He.fAd K ("are_homes", none)) fd
  g_are_homes : mg "are_homes" = some (.ref (He.ga K "are_homes"))
  f_Layout_is_home : ∃ fd, FunD K "is_home" "Layout.is_home" (defArgs s_Layout_is_home) (defBody s_Layout_is_home) (defScope s_Layout_is_home) ([] : List V) [] (He.fAd K ("Layout", some "is_home")) fd
  me_Layout_is_home : Meth K (He.ga K "Layout") "is_home" (He.ma K (He.ga K "Layout") "is_home")
  f_is_whole : ∃ fd, FunD K "is_whole" "is_whole" (defArgs s_is_whole) (defBody s_is_whole) (defScope s_is_whole) ([] : List V) [] (He.fAd K ("is_whole", none)) fd
  g_is_whole : mg "is_whole" = some (.ref (He.ga K "is_whole"))
  i_ROWS : ∃ t, mg "ROWS" = some (.int (4) t)
  i_ROOM : ∃ t, mg "ROOM" = some (.int (6) t)
  i_JOURNAL : ∃ t, mg "JOURNAL" = some (.int (3) t)
  f_wrong_journal : ∃ fd, FunD K "wrong_journal" "wrong_journal" (defArgs s_wrong_journal) (defBody s_wrong_journal) (defScope s_wrong_journal) ([] : List V) [] (He.fAd K ("wrong_journal", none)) fd
  g_wrong_journal : mg "wrong_journal" = some (.ref (He.ga K "wrong_journal"))
  i_WIDE : ∃ t, mg "WIDE" = some (.int (8) t)
  f_head_row : ∃ fd, FunD K "head_row" "head_row" (defArgs s_head_row) (defBody s_head_row) (defScope s_head_row) ([] : List V) [] (He.fAd K ("head_row", none)) fd
  g_head_row : mg "head_row" = some (.ref (He.ga K "head_row"))
  i_MARK : ∃ t, mg "MARK" = some (.int (1179) t)
  f_due_head : ∃ fd, FunD K "due_head" "due_head" (defArgs s_due_head) (defBody s_due_head) (defScope s_due_head) ([] : List V) [] (He.fAd K ("due_head", none)) fd
  g_due_head : mg "due_head" = some (.ref (He.ga K "due_head"))
  f_wrong_heads : ∃ fd, FunD K "wrong_heads" "wrong_heads" (defArgs s_wrong_heads) (defBody s_wrong_heads) (defScope s_wrong_heads) ([] : List V) [] (He.fAd K ("wrong_heads", none)) fd
  g_wrong_heads : mg "wrong_heads" = some (.ref (He.ga K "wrong_heads"))
  f_wrong_bounds : ∃ fd, FunD K "wrong_bounds" "wrong_bounds" (defArgs s_wrong_bounds) (defBody s_wrong_bounds) (defScope s_wrong_bounds) ([] : List V) [] (He.fAd K ("wrong_bounds", none)) fd
  g_wrong_bounds : mg "wrong_bounds" = some (.ref (He.ga K "wrong_bounds"))
  i_TOP : ∃ t, mg "TOP" = some (.int (999999999999) t)
  f_wrong_early : ∃ fd, FunD K "wrong_early" "wrong_early" (defArgs s_wrong_early) (defBody s_wrong_early) (defScope s_wrong_early) ([] : List V) [] (He.fAd K ("wrong_early", none)) fd
  g_wrong_early : mg "wrong_early" = some (.ref (He.ga K "wrong_early"))
  f_map_row : ∃ fd, FunD K "map_row" "map_row" (defArgs s_map_row) (defBody s_map_row) (defScope s_map_row) ([] : List V) [] (He.fAd K ("map_row", none)) fd
  g_map_row : mg "map_row" = some (.ref (He.ga K "map_row"))
  f_Layout_data_at : ∃ fd, FunD K "data_at" "Layout.data_at" (defArgs s_Layout_data_at) (defBody s_Layout_data_at) (defScope s_Layout_data_at) ([] : List V) [] (He.fAd K ("Layout", some "data_at")) fd
  n_divmod : mg "divmod" = none
  i_BITS : ∃ t, mg "BITS" = some (.int (20) t)
  me_Layout_data_at : Meth K (He.ga K "Layout") "data_at" (He.ma K (He.ga K "Layout") "data_at")
  f_is_file : ∃ fd, FunD K "is_file" "is_file" (defArgs s_is_file) (defBody s_is_file) (defScope s_is_file) ([] : List V) [] (He.fAd K ("is_file", none)) fd
  g_is_file : mg "is_file" = some (.ref (He.ga K "is_file"))
  f_walk_pointer : ∃ fd, FunD K "walk_pointer" "walk_pointer" (defArgs s_walk_pointer) (defBody s_walk_pointer) (defScope s_walk_pointer) ([] : List V) [] (He.fAd K ("walk_pointer", none)) fd
  g_walk_pointer : mg "walk_pointer" = some (.ref (He.ga K "walk_pointer"))
  f_Layout_is_data : ∃ fd, FunD K "is_data" "Layout.is_data" (defArgs s_Layout_is_data) (defBody s_Layout_is_data) (defScope s_Layout_is_data) ([] : List V) [] (He.fAd K ("Layout", some "is_data")) fd
  me_Layout_is_data : Meth K (He.ga K "Layout") "is_data" (He.ma K (He.ga K "Layout") "is_data")
  f_walk_file : ∃ fd, FunD K "walk_file" "walk_file" (defArgs s_walk_file) (defBody s_walk_file) (defScope s_walk_file) ([] : List V) [] (He.fAd K ("walk_file", none)) fd
  g_walk_file : mg "walk_file" = some (.ref (He.ga K "walk_file"))
  f_walk_files : ∃ fd, FunD K "walk_files" "walk_files" (defArgs s_walk_files) (defBody s_walk_files) (defScope s_walk_files) ([] : List V) [] (He.fAd K ("walk_files", none)) fd
  g_walk_files : mg "walk_files" = some (.ref (He.ga K "walk_files"))
  f_wrong_map : ∃ fd, FunD K "wrong_map" "wrong_map" (defArgs s_wrong_map) (defBody s_wrong_map) (defScope s_wrong_map) ([] : List V) [] (He.fAd K ("wrong_map", none)) fd
  g_wrong_map : mg "wrong_map" = some (.ref (He.ga K "wrong_map"))
  n_list : mg "list" = none
  f_is_folder : ∃ fd, FunD K "is_folder" "is_folder" (defArgs s_is_folder) (defBody s_is_folder) (defScope s_is_folder) ([] : List V) [] (He.fAd K ("is_folder", none)) fd
  g_is_folder : mg "is_folder" = some (.ref (He.ga K "is_folder"))
  f_in_use : ∃ fd, FunD K "in_use" "in_use" (defArgs s_in_use) (defBody s_in_use) (defScope s_in_use) ([] : List V) [] (He.fAd K ("in_use", none)) fd
  g_in_use : mg "in_use" = some (.ref (He.ga K "in_use"))
  f_is_right : ∃ fd, FunD K "is_right" "is_right" (defArgs s_is_right) (defBody s_is_right) (defScope s_is_right) ([] : List V) [] (He.fAd K ("is_right", none)) fd
  g_is_right : mg "is_right" = some (.ref (He.ga K "is_right"))
  f_slot_at : ∃ fd, FunD K "slot_at" "slot_at" (defArgs s_slot_at) (defBody s_slot_at) (defScope s_slot_at) ([] : List V) [] (He.fAd K ("slot_at", none)) fd
  g_slot_at : mg "slot_at" = some (.ref (He.ga K "slot_at"))
  f_Layout_names_at : ∃ fd, FunD K "names_at" "Layout.names_at" (defArgs s_Layout_names_at) (defBody s_Layout_names_at) (defScope s_Layout_names_at) ([] : List V) [] (He.fAd K ("Layout", some "names_at")) fd
  i_WIDTH : ∃ t, mg "WIDTH" = some (.int (4) t)
  me_Layout_names_at : Meth K (He.ga K "Layout") "names_at" (He.ma K (He.ga K "Layout") "names_at")
  f_slot : ∃ fd, FunD K "slot" "slot" (defArgs s_slot) (defBody s_slot) (defScope s_slot) ([] : List V) [] (He.fAd K ("slot", none)) fd
  g_slot : mg "slot" = some (.ref (He.ga K "slot"))
  n_tuple : mg "tuple" = none
  f_right_slots : ∃ fd, FunD K "right_slots" "right_slots" (defArgs s_right_slots) (defBody s_right_slots) (defScope s_right_slots) ([] : List V) [] (He.fAd K ("right_slots", none)) fd
  g_right_slots : mg "right_slots" = some (.ref (He.ga K "right_slots"))
  f_named : ∃ fd, FunD K "named" "named" (defArgs s_named) (defBody s_named) (defScope s_named) ([] : List V) [] (He.fAd K ("named", none)) fd
  g_named : mg "named" = some (.ref (He.ga K "named"))
  f_wrong_counts : ∃ fd, FunD K "wrong_counts" "wrong_counts" (defArgs s_wrong_counts) (defBody s_wrong_counts) (defScope s_wrong_counts) ([] : List V) [] (He.fAd K ("wrong_counts", none)) fd
  g_wrong_counts : mg "wrong_counts" = some (.ref (He.ga K "wrong_counts"))
  f_wrong_found : ∃ fd, FunD K "wrong_found" "wrong_found" (defArgs s_wrong_found) (defBody s_wrong_found) (defScope s_wrong_found) ([] : List V) [] (He.fAd K ("wrong_found", none)) fd
  g_wrong_found : mg "wrong_found" = some (.ref (He.ga K "wrong_found"))
  n_int : mg "int" = none
  f_ring_of : ∃ fd, FunD K "ring_of" "ring_of" (defArgs s_ring_of) (defBody s_ring_of) (defScope s_ring_of) ([] : List V) [] (He.fAd K ("ring_of", none)) fd
  g_ring_of : mg "ring_of" = some (.ref (He.ga K "ring_of"))
  f_wrong_rings : ∃ fd, FunD K "wrong_rings" "wrong_rings" (defArgs s_wrong_rings) (defBody s_wrong_rings) (defScope s_wrong_rings) ([] : List V) [] (He.fAd K ("wrong_rings", none)) fd
  g_wrong_rings : mg "wrong_rings" = some (.ref (He.ga K "wrong_rings"))
  n_sorted : mg "sorted" = none
  n_min : mg "min" = none
  f_wrong_names : ∃ fd, FunD K "wrong_names" "wrong_names" (defArgs s_wrong_names) (defBody s_wrong_names) (defScope s_wrong_names) ([] : List V) [] (He.fAd K ("wrong_names", none)) fd
  g_wrong_names : mg "wrong_names" = some (.ref (He.ga K "wrong_names"))
  f_wrong_pieces : ∃ fd, FunD K "wrong_pieces" "wrong_pieces" (defArgs s_wrong_pieces) (defBody s_wrong_pieces) (defScope s_wrong_pieces) ([] : List V) [] (He.fAd K ("wrong_pieces", none)) fd
  g_wrong_pieces : mg "wrong_pieces" = some (.ref (He.ga K "wrong_pieces"))
  f_is_number : ∃ fd, FunD K "is_number" "is_number" (defArgs s_is_number) (defBody s_is_number) (defScope s_is_number) ([] : List V) [] (He.fAd K ("is_number", none)) fd
  g_is_number : mg "is_number" = some (.ref (He.ga K "is_number"))
  n_abs : mg "abs" = none
  n_isinstance : mg "isinstance" = none
  n_bool : mg "bool" = none
  i_BEYOND : ∃ t, mg "BEYOND" = some (.int (10000000000000000000000000000000000000000) t)
  f_is_row : ∃ fd, FunD K "is_row" "is_row" (defArgs s_is_row) (defBody s_is_row) (defScope s_is_row) ([] : List V) [] (He.fAd K ("is_row", none)) fd
  g_is_row : mg "is_row" = some (.ref (He.ga K "is_row"))
  n_all : mg "all" = none
  f_check_form : ∃ fd, FunD K "check_form" "check_form" (defArgs s_check_form) (defBody s_check_form) (defScope s_check_form) ([] : List V) [] (He.fAd K ("check_form", none)) fd
  g_check_form : mg "check_form" = some (.ref (He.ga K "check_form"))
  f_wrong : ∃ fd, FunD K "wrong" "wrong" (defArgs s_wrong) (defBody s_wrong) (defScope s_wrong) ([] : List V) [] (He.fAd K ("wrong", none)) fd
  g_wrong : mg "wrong" = some (.ref (He.ga K "wrong"))
  f_faults : ∃ fd, FunD K "faults" "faults" (defArgs s_faults) (defBody s_faults) (defScope s_faults) ([] : List V) [] (He.fAd K ("faults", none)) fd
  g_faults : mg "faults" = some (.ref (He.ga K "faults"))
  gc_CLAUSES : mg "CLAUSES" = some (.ref (He.ga K "CLAUSES"))
  tp_CLAUSES : He.tupB K "CLAUSES" [.str "bounds", .str "head", .str "journal", .str "kind", .str "size", .str "piece", .str "name", .str "ring", .str "found", .str "count", .str "map"] = true
  f_mend : ∃ fd, FunD K "mend" "mend" (defArgs s_mend) (defBody s_mend) (defScope s_mend) ([] : List V) [] (He.fAd K ("mend", none)) fd
  g_mend : mg "mend" = some (.ref (He.ga K "mend"))
  f__law_words : ∃ fd, FunD K "_law_words" "_law_words" (defArgs s__law_words) (defBody s__law_words) (defScope s__law_words) ([] : List V) [] (He.fAd K ("_law_words", none)) fd
  g__law_words : mg "_law_words" = some (.ref (He.ga K "_law_words"))
  f__law_wild : ∃ fd, FunD K "_law_wild" "_law_wild" (defArgs s__law_wild) (defBody s__law_wild) (defScope s__law_wild) ([] : List V) [] (He.fAd K ("_law_wild", none)) fd
  g__law_wild : mg "_law_wild" = some (.ref (He.ga K "_law_wild"))
  f__law_pointer : ∃ fd, FunD K "_law_pointer" "_law_pointer" (defArgs s__law_pointer) (defBody s__law_pointer) (defScope s__law_pointer) ([] : List V) [] (He.fAd K ("_law_pointer", none)) fd
  g__law_pointer : mg "_law_pointer" = some (.ref (He.ga K "_law_pointer"))
  f__law_mixed : ∃ fd, FunD K "_law_mixed" "_law_mixed" (defArgs s__law_mixed) (defBody s__law_mixed) (defScope s__law_mixed) ([] : List V) [] (He.fAd K ("_law_mixed", none)) fd
  g__law_mixed : mg "_law_mixed" = some (.ref (He.ga K "_law_mixed"))
  f__law_slots : ∃ fd, FunD K "_law_slots" "_law_slots" (defArgs s__law_slots) (defBody s__law_slots) (defScope s__law_slots) ([] : List V) [] (He.fAd K ("_law_slots", none)) fd
  g__law_slots : mg "_law_slots" = some (.ref (He.ga K "_law_slots"))
  f__law_head : ∃ fd, FunD K "_law_head" "_law_head" (defArgs s__law_head) (defBody s__law_head) (defScope s__law_head) ([] : List V) [] (He.fAd K ("_law_head", none)) fd
  g__law_head : mg "_law_head" = some (.ref (He.ga K "_law_head"))
  n_sum : mg "sum" = none
  n_enumerate : mg "enumerate" = none
  f__law_block : ∃ fd, FunD K "_law_block" "_law_block" (defArgs s__law_block) (defBody s__law_block) (defScope s__law_block) ([] : List V) [] (He.fAd K ("_law_block", none)) fd
  g__law_block : mg "_law_block" = some (.ref (He.ga K "_law_block"))
  f__law_cell_at : ∃ fd, FunD K "_law_cell_at" "_law_cell_at" (defArgs s__law_cell_at) (defBody s__law_cell_at) (defScope s__law_cell_at) ([] : List V) [] (He.fAd K ("_law_cell_at", none)) fd
  g__law_cell_at : mg "_law_cell_at" = some (.ref (He.ga K "_law_cell_at"))
  f__law_by_digits : ∃ fd, FunD K "_law_by_digits" "_law_by_digits" (defArgs s__law_by_digits) (defBody s__law_by_digits) (defScope s__law_by_digits) ([] : List V) [] (He.fAd K ("_law_by_digits", none)) fd
  g__law_by_digits : mg "_law_by_digits" = some (.ref (He.ga K "_law_by_digits"))
  f__law_volume : ∃ fd, FunD K "_law_volume" "_law_volume" (defArgs s__law_volume) (defBody s__law_volume) (defScope s__law_volume) ([] : List V) [] (He.fAd K ("_law_volume", none)) fd
  g__law_volume : mg "_law_volume" = some (.ref (He.ga K "_law_volume"))
  f_law : ∃ fd, FunD K "law" "law" (defArgs s_law) (defBody s_law) (defScope s_law) ([] : List V) [] (He.fAd K ("law", none)) fd
  g_law : mg "law" = some (.ref (He.ga K "law"))
  f_Layout___init__ : ∃ fd, FunD K "__init__" "Layout.__init__" (defArgs s_Layout___init__) (defBody s_Layout___init__) (defScope s_Layout___init__) ([] : List V) [] (He.fAd K ("Layout", some "__init__")) fd
  gc_Layout : mg "Layout" = some (.ref (He.ga K "Layout"))
  mk_Layout : Mk K (He.ga K "Layout") (He.ma K (He.ga K "Layout") "__init__")
section
variable {P : Program} {w : World} {K : PySem.W.Frag} {mg : Str → Option Value} {base : Heap}
theorem ok_Layout_record_at (T : Txt K mg) {f : Addr} (FF : ∃ fd, FunD K "record_at" "Layout.record_at" (defArgs s_Layout_record_at) (defBody s_Layout_record_at) (defScope s_Layout_record_at) ([] : List V) [] f fd) : OkM P w K mg base 1 f ["self", "number"] (sp_Layout_record_at K) := by
  obtain ⟨fd, F⟩ := FF
  refine ⟨fd, fn_ok2 F sc_Layout_record_at (len2 rfl) (fun cdv A outer s H E hr => have hu := hr.units; ⟨_, ((lss_one (ls_ret (lop (ko_add K) (lglobI rfl T.i_RECORDS) (lv 1))))), fun vs L Q EL σ h hσ => ?_⟩), F.bindsN (fun _ _ _ _ _ _ us hl => match us, hl with | [_, _], _ => rfl), F.kp⟩
  obtain ⟨x0, x1, rfl, h⟩ := h
  have hσ : ([some x0, some x1] : St) = σ := hσ
  subst hσ
  clear hσ hu hr F
  obtain ⟨m, rfl, h⟩ := h
  walk_at "w"
  exact Wk.go h
theorem ok_wrong_sizes (T : Txt K mg) (G_Layout_record_at : OkM P w K mg base 1 (He.ma K (He.ga K "Layout") "record_at") ["self", "number"] (sp_Layout_record_at K)) : OkF P w K mg base 2 "wrong_sizes" ["layout", "volume"] (sp_wrong_sizes K) := by
  obtain ⟨fd, F⟩ := T.f_wrong_sizes
  refine ⟨T.g_wrong_sizes, fd, fn_ok2 F sc_wrong_sizes (len2 rfl) (fun cdv A outer s H E hr => have hu := hr.units; ⟨_, ((lss_cons (ls_set 2 sc_wrong_sizes.nd (llst la_nil))
      (lss_cons (ls_for PassesOwn.never rfl (li_range2 rfl T.n_range (la_cons lint (la_cons (kfld K (lv 0)) la_nil))) (lg_name 3 sc_wrong_sizes.nd) (lss_cons (ls_set 4 sc_wrong_sizes.nd (lmethO T.cl_Layout T.me_Layout_record_at G_Layout_record_at (hr.mono (by decide)) (lv 0) (la_cons (lv 3) la_nil)))
      (lss_cons (ls_asg (lslice (ksl_ok K) (lix (kx_ix K hu) (lv 1) (lv 4) (fun _ _ => rfl)) lo_none (lo_some lint)) (kg_tup K (n := 2) rfl (lgs_cons (lg_name 5 sc_wrong_sizes.nd) (lgs_cons (lg_name 6 sc_wrong_sizes.nd) lgs_nil))))
      (lss_one (ls_if (LW.pt (lw_and (lt_cmp (ko_eq K hu) (lv 5) lint (nomark _)) (lw_and1 (LW.pt (lw_or (lt_cmp lo_lt (lv 6) lint (nomark _)) (lw_or1 (lt_cmp lo_gt (lv 6) (lglobI rfl T.i_MOST) (nomark _)))))))) (lss_one (ls_expr (kbm K PySem.F.plainAttrs_list PySem.F.slot_list_append PySem.F.type_list_append lm_append (lv 2) (la_cons (ltup (la_cons (lv 4) (la_cons lint (la_cons (lglobI rfl T.i_MOST) la_nil)))) la_nil)))) lss_nil)))))
      (lss_one (ls_ret (lv 2)))))), fun vs L Q EL σ h hσ => ?_⟩), F.bindsN (fun _ _ _ _ _ _ us hl => match us, hl with | [_, _], _ => rfl), F.kp⟩
  obtain ⟨x0, x1, rfl, h⟩ := h
  have hσ : ([some x0, some x1, none, none, none, none, none] : St) = σ := hσ
  subst hσ
  clear hσ hu hr F
  clear G_Layout_record_at
  have t_cl_Layout := T.cl_Layout
  have t_na_Layout_files := T.na_Layout_files
  have t_na_Layout_slots := T.na_Layout_slots
  have t_na_Layout_data := T.na_Layout_data
  obtain ⟨q, dx, F, E, B, p, as, rows, rfl, rfl, hb, hm, hv, hl, hn, h8, h⟩ := h
  have hb' := hb
  unfold inB at hb'
  walk_at "w"
  rename_i D
  refine' frn_4 (k0 := 3) (k1 := 4) (k2 := 5) (k3 := 6) (fun i L' => ∃ c, LdT c D (accM (fun i => sst rows (1 + (i : Int))) i) ∧ L' = c :: L) ?h0 ?hs ?hd
  case h0 => exact Wk.go ⟨_, LdT.nil, rfl⟩
  case hs =>
    rintro i a0 a1 a2 a3 L' hi ⟨c, hc, rfl⟩
    have hz := accM_len (g := fun i => sst rows (1 + (i : Int))) (fun j => sst_len rows _) i
    walk_at "sl"
    walk_at "w"
    all_goals walk_at "g1"
    all_goals (refine' Wk.by_ ?l ⟨rfl, _, LdT.to ?h1 ?h2, rfl⟩; (case h1 => assumption); (case h2 => (rw [accM_succ]; unfold sst; (repeat' split) <;> first | rfl | (exfalso; omega) | simp)); (case l => walk_at "lic"))
  rintro a0 a1 a2 a3 L' ⟨c, hc, rfl⟩
  walk_at "sl"
  walk_at "w"
  walk_at "go"
  exact h _ _ hc
theorem ok_wrong_kinds (T : Txt K mg) (G_Layout_record_at : OkM P w K mg base 1 (He.ma K (He.ga K "Layout") "record_at") ["self", "number"] (sp_Layout_record_at K)) : OkF P w K mg base 2 "wrong_kinds" ["layout", "volume"] (sp_wrong_kinds K) := by
  obtain ⟨fd, F⟩ := T.f_wrong_kinds
  refine ⟨T.g_wrong_kinds, fd, fn_ok2 F sc_wrong_kinds (len2 rfl) (fun cdv A outer s H E hr => have hu := hr.units; ⟨_, ((lss_cons (ls_set 2 sc_wrong_kinds.nd (llst la_nil))
      (lss_cons (ls_for PassesOwn.never rfl (li_range1 rfl T.n_range (la_cons (kfld K (lv 0)) la_nil)) (lg_name 3 sc_wrong_kinds.nd) (lss_cons (ls_set 4 sc_wrong_kinds.nd (lmethO T.cl_Layout T.me_Layout_record_at G_Layout_record_at (hr.mono (by decide)) (lv 0) (la_cons (lv 3) la_nil)))
      (lss_cons (ls_set 5 sc_wrong_kinds.nd (lix (kx_ix K hu) (lix (kx_ix K hu) (lv 1) (lv 4) (fun _ _ => rfl)) lint (fun _ _ => rfl)))
      (lss_cons (ls_if (LW.pt (lw_and (lt_cmp (ko_eq K hu) (lv 3) lint (nomark _)) (lw_and1 (lt_cmp (ko_ne K hu) (lv 5) lint (nomark _))))) (lss_one (ls_expr (kbm K PySem.F.plainAttrs_list PySem.F.slot_list_append PySem.F.type_list_append lm_append (lv 2) (la_cons (ltup (la_cons (lv 4) (la_cons lint (la_cons lint la_nil)))) la_nil)))) lss_nil)
      (lss_one (ls_if (LW.pt (lw_and (lt_cmp lo_gt (lv 3) lint (nomark _)) (lw_and1 (LW.pt (lw_or (lt_cmp lo_lt (lv 5) lint (nomark _)) (lw_or1 (lt_cmp lo_gt (lv 5) lint (nomark _)))))))) (lss_one (ls_expr (kbm K PySem.F.plainAttrs_list PySem.F.slot_list_append PySem.F.type_list_append lm_append (lv 2) (la_cons (ltup (la_cons (lv 4) (la_cons lint (la_cons lint la_nil)))) la_nil)))) lss_nil))))))
      (lss_one (ls_ret (lv 2)))))), fun vs L Q EL σ h hσ => ?_⟩), F.bindsN (fun _ _ _ _ _ _ us hl => match us, hl with | [_, _], _ => rfl), F.kp⟩
  obtain ⟨x0, x1, rfl, h⟩ := h
  have hσ : ([some x0, some x1, none, none, none, none] : St) = σ := hσ
  subst hσ
  clear hσ hu hr F
  clear G_Layout_record_at
  have t_cl_Layout := T.cl_Layout
  have t_na_Layout_files := T.na_Layout_files
  have t_na_Layout_slots := T.na_Layout_slots
  have t_na_Layout_data := T.na_Layout_data
  obtain ⟨q, dx, F, E, B, p, as, rows, rfl, rfl, hb, hm, hv, hl, hn, h8, h⟩ := h
  have hb' := hb
  unfold inB at hb'
  walk_at "w"
  rename_i D
  refine' fr_3 (k0 := 3) (k1 := 4) (k2 := 5) (fun i L' => ∃ c, LdT c D (accM (fun i => kst rows i) i) ∧ L' = c :: L) ?h0 ?hs ?hd
  case h0 => exact Wk.go ⟨_, LdT.nil, rfl⟩
  case hs =>
    rintro i a0 a1 a2 L' hi ⟨c, hc, rfl⟩
    have hz := accM_len (g := fun i => kst rows i) (fun j => kst_len rows j) i
    walk_at "sl"
    walk_at "w"
    all_goals walk_at "go"
    all_goals (refine' ⟨rfl, _, LdT.to ?h1 ?h2, rfl⟩; (case h1 => assumption); (case h2 => (rw [accM_succ]; unfold kst; (repeat' split) <;> first | rfl | (exfalso; omega) | simp)))
  rintro a0 a1 a2 L' ⟨c, hc, rfl⟩
  walk_at "sl"
  walk_at "w"
  walk_at "go"
  exact h _ _ hc
theorem ok_check_of (T : Txt K mg) : OkF P w K mg base 1 "check_of" ["numbers"] (sp_check_of K) := by
  obtain ⟨fd, F⟩ := T.f_check_of
  refine ⟨T.g_check_of, fd, fn_ok2 F sc_check_of (len1 rfl) (fun cdv A outer s H E hr => have hu := hr.units; ⟨_, ((lss_cons (ls_set 1 sc_check_of.nd lint)
      (lss_cons (ls_for PassesOwn.never rfl (li_range1 rfl T.n_range (la_cons (lcallB (kk_len K) (by rfl) T.n_len (by decide +kernel) (la_cons (lv 0) la_nil)) la_nil)) (lg_name 2 sc_check_of.nd) (lss_one (ls_set 1 sc_check_of.nd (lop lo_mod (lop (ko_add K) (lv 1) (lop lo_mul (lop (ko_add K) (lv 2) lint) (lix (kx_ix K hu) (lv 0) (lv 2) (fun _ _ => rfl)))) (lglobI rfl T.i_PRIME)))))
      (lss_one (ls_ret (lv 1)))))), fun vs L Q EL σ h hσ => ?_⟩), F.bindsN (fun _ _ _ _ _ _ us hl => match us, hl with | [_], _ => rfl), F.kp⟩
  obtain ⟨x0, rfl, h⟩ := h
  have hσ : ([some x0, none, none] : St) = σ := hσ
  subst hσ
  clear hσ hu hr F
  obtain ⟨p, xs, ns, rfl, hp, hv, hl, h⟩ := h
  obtain rfl := hv.eq
  walk_at "w"
  refine f_range0 (fun i σ L' => ∃ v2, σ = [some (.ref p), some (.int (chkS ns i % 1000003)), v2] ∧ L' = L) (Wk.go ⟨none, rfl, rfl⟩) ?_ ?_
  · rintro i σ L' hi ⟨v2, rfl, rfl⟩
    have hi : i < ns.length := by simpa using hi
    walk_at "w"
    refine Wk.go ⟨some (.int (i : Int)), ?_, rfl⟩
    have e : ∀ a t : Int, (a % 1000003 + t) % 1000003 = (a + t) % 1000003 := by omega
    rw [chkS_succ, e]
    simp only [Int.toNat_natCast]
  rintro σ L' ⟨v2, rfl, rfl⟩
  walk_at "w"
  exact Wk.go h
theorem ok_journal_check (T : Txt K mg) (G_check_of : OkF P w K mg base 1 "check_of" ["numbers"] (sp_check_of K)) : OkF P w K mg base 2 "journal_check" ["count", "targets", "rows"] (sp_journal_check K) := by
  obtain ⟨fd, F⟩ := T.f_journal_check
  refine ⟨T.g_journal_check, fd, fn_ok2 F sc_journal_check (len3 rfl) (fun cdv A outer s H E hr => have hu := hr.units; ⟨_, ((lss_cons (ls_set 3 sc_journal_check.nd (lop (ko_add K) (llst (la_cons (lv 0) la_nil)) (lv 1)))
      (lss_cons (ls_for PassesOwn.never rfl (ki_list K (lv 2)) (lg_name 4 sc_journal_check.nd) (lss_one (ls_set 3 sc_journal_check.nd (lop (ko_add K) (lv 3) (lv 4)))))
      (lss_one (ls_ret (lcallO G_check_of (hr.mono (by decide)) rfl (la_cons (lv 3) la_nil))))))), fun vs L Q EL σ h hσ => ?_⟩), F.bindsN (fun _ _ _ _ _ _ us hl => match us, hl with | [_, _, _], _ => rfl), F.kp⟩
  obtain ⟨x0, x1, x2, rfl, h⟩ := h
  have hσ : ([some x0, some x1, some x2, none, none] : St) = σ := hσ
  subst hσ
  clear hσ hu hr F
  clear G_check_of
  obtain ⟨n, t, ts, r, rs, RR, rfl, rfl, rfl, ht, hr, hR, h8, hz1, hz2, h⟩ := h
  walk_at "w"
  rename_i _ N
  refine f_refs (fun i σ L' => ∃ N v, σ = [some (.int n), some (.ref t), some (.ref r), some (.ref N), v] ∧ L' = [(N, .lst ((n :: (ts ++ (RR.take i).flatten)).map V.int))] :: L) (Wk.by_ (L' := [(N, .lst (([n] ++ ts).map V.int))] :: L) ?l ⟨N, none, rfl, by simp⟩) ?hG ?hs ?hd
  case l => walk_at "lic"
  case hG => rintro i σ L' ⟨N, v, rfl, rfl⟩; exact IsL.tl (IsL.at_ hr)
  case hs =>
    rintro i σ L' hi ⟨N, v, rfl, rfl⟩
    have hra := hR.get hi
    have hRl := hR.1
    have hfl := flat_len (RR := RR.take i) (fun r hr => h8 r (List.mem_of_mem_take hr))
    have htl : (RR.take i).length ≤ 10 := by rw [List.length_take]; omega
    have hrl := rowAt_len h8 (j := (i : Int)) (by omega) (by omega)
    walk_at "w"
    have e : (n :: (ts ++ (RR.take (i + 1)).flatten)) = (n :: (ts ++ (RR.take i).flatten)) ++ rowAt RR i := by
      rw [flat_take (by omega)]
      simp
    refine Wk.by_ ?_ ⟨_, _, rfl, rfl⟩
    rw [e]
    walk_at "lic"
  rintro σ L' ⟨N, v, rfl, rfl⟩
  have hfl := flat_len h8
  rw [show rs.length = RR.length from hR.1.symm, List.take_length]
  walk_at "w"
  exact Wk.by_ (by walk_at "lic") h
theorem ok_Layout_many (T : Txt K mg) {f : Addr} (FF : ∃ fd, FunD K "many" "Layout.many" (defArgs s_Layout_many) (defBody s_Layout_many) (defScope s_Layout_many) ([] : List V) [] f fd) : OkM P w K mg base 1 f ["self"] (sp_Layout_many K) := by
  obtain ⟨fd, F⟩ := FF
  refine ⟨fd, fn_ok2 F sc_Layout_many (len1 rfl) (fun cdv A outer s H E hr => have hu := hr.units; ⟨_, ((lss_one (ls_ret (lop (ko_add K) (lop (ko_add K) (lop (ko_add K) (lglobI rfl T.i_RECORDS) (kfld K (lv 0))) (kfld K (lv 0))) (kfld K (lv 0)))))), fun vs L Q EL σ h hσ => ?_⟩), F.bindsN (fun _ _ _ _ _ _ us hl => match us, hl with | [_], _ => rfl), F.kp⟩
  obtain ⟨x0, rfl, h⟩ := h
  have hσ : ([some x0] : St) = σ := hσ
  subst hσ
  clear hσ hu hr F
  have t_cl_Layout := T.cl_Layout
  have t_na_Layout_files := T.na_Layout_files
  have t_na_Layout_slots := T.na_Layout_slots
  have t_na_Layout_data := T.na_Layout_data
  obtain ⟨p, dx, F, E, B, rfl, hm, h⟩ := h
  walk_at "w"
  exact Wk.go h
theorem ok_Layout_is_home (T : Txt K mg) (G_Layout_many : OkM P w K mg base 1 (He.ma K (He.ga K "Layout") "many") ["self"] (sp_Layout_many K)) {f : Addr} (FF : ∃ fd, FunD K "is_home" "Layout.is_home" (defArgs s_Layout_is_home) (defBody s_Layout_is_home) (defScope s_Layout_is_home) ([] : List V) [] f fd) : OkM P w K mg base 2 f ["self", "number"] (sp_Layout_is_home K) := by
  obtain ⟨fd, F⟩ := FF
  refine ⟨fd, fn_ok2 F sc_Layout_is_home (len2 rfl) (fun cdv A outer s H E hr => have hu := hr.units; ⟨_, ((lss_one (ls_ret (lor (lcmp (ko_eq K hu) (lv 1) (lglobI rfl T.i_MAP) (nomark _)) (lone (lchain lo_le lo_lt (lglobI rfl T.i_RECORDS) (lv 1) (lmethO0 T.cl_Layout T.me_Layout_many G_Layout_many (hr.mono (by decide)) (lv 0)))))))), fun vs L Q EL σ h hσ => ?_⟩), F.bindsN (fun _ _ _ _ _ _ us hl => match us, hl with | [_, _], _ => rfl), F.kp⟩
  obtain ⟨x0, x1, rfl, h⟩ := h
  have hσ : ([some x0, some x1] : St) = σ := hσ
  subst hσ
  clear hσ hu hr F
  clear G_Layout_many
  obtain ⟨q, dx, F, E, B, n, rfl, rfl, hm, h⟩ := h
  walk_at "w"
  all_goals walk_at "go"
  all_goals refine q_bl h ?_
  all_goals unfold isHomeM
  all_goals first | exact dec_c (by omega) | exact dec_t (by omega) | exact dec_f (by omega)
theorem ok_are_homes (T : Txt K mg) (G_Layout_is_home : OkM P w K mg base 2 (He.ma K (He.ga K "Layout") "is_home") ["self", "number"] (sp_Layout_is_home K)) : OkF P w K mg base 3 "are_homes" ["layout", "targets"] (sp_are_homes K) := by
  obtain ⟨fd, F⟩ := T.f_are_homes
  refine ⟨T.g_are_homes, fd, fn_ok2 F sc_are_homes (len2 rfl) (fun cdv A outer s H E hr => have hu := hr.units; ⟨_, ((lss_cons (ls_for PassesOwn.never rfl (li_range1 rfl T.n_range (la_cons (lcallB (kk_len K) (by rfl) T.n_len (by decide +kernel) (la_cons (lv 1) la_nil)) la_nil)) (lg_name 2 sc_are_homes.nd) (lss_one (ls_if (LW.pt (lw_or (lt_not (kt_truth K (lmethO T.cl_Layout T.me_Layout_is_home G_Layout_is_home (hr.mono (by decide)) (lv 0) (la_cons (lix (kx_ix K hu) (lv 1) (lv 2) (fun _ _ => rfl)) la_nil)))) (lw_or1 (lt_cmp (ko_in K hu) (lix (kx_ix K hu) (lv 1) (lv 2) (fun _ _ => rfl)) (lslice (ksl_ok K) (lv 1) lo_none (lo_some (lv 2))) (by rfl))))) (lss_one (ls_ret lbl)) lss_nil)))
      (lss_one (ls_ret lbl)))), fun vs L Q EL σ h hσ => ?_⟩), F.bindsN (fun _ _ _ _ _ _ us hl => match us, hl with | [_, _], _ => rfl), F.kp⟩
  obtain ⟨x0, x1, rfl, h⟩ := h
  have hσ : ([some x0, some x1, none] : St) = σ := hσ
  subst hσ
  clear hσ hu hr F
  clear G_Layout_is_home
  obtain ⟨q, dx, F, E, B, t, ts, rfl, rfl, hm, ht, hz, h⟩ := h
  walk_at "w"
  refine' fr_1 (k0 := 2) (fun i L' => L' = L ∧ (∀ x ∈ ts.take i, isHomeM F E B x) ∧ (ts.take i).Nodup) ?h0 ?hs ?hd
  case h0 => exact Wk.go ⟨rfl, by simp, by simp⟩
  case hs =>
    rintro i a0 L' hi ⟨rfl, q1, q2⟩
    have hi' : i < ts.length := by simpa using hi
    have hg : ts[i]? = some (ts.getD i 0) := by rw [List.getD_eq_getElem?_getD, List.getElem?_eq_getElem hi']; rfl
    have hmem : ts.getD i 0 ∈ ts := List.mem_of_getElem? hg
    have htk : ts.take (i + 1) = ts.take i ++ [ts.getD i 0] := by rw [List.take_succ, hg]; rfl
    have hcut : cutG ts none (some (i : Int)) = ts.take i := by rw [cutG_hi (by omega), Int.toNat_natCast]
    walk_at "sl"
    walk_at "w"
    all_goals simp only [hcut, Int.toNat_natCast] at *
    · rename_i h1 _ h2
      walk_at "g1"
      refine Wk.by_ (by walk_at "lic") (q_bl h (dec_f fun z => ?_))
      have := z.2.sublist (List.take_sublist (i + 1) ts)
      rw [htk, List.nodup_append] at this
      exact this.2.2 _ h2 _ (by simp) rfl
    · rename_i h1 _ h2
      walk_at "g1"
      refine Wk.by_ (by walk_at "lic") ⟨rfl, rfl, ?_, ?_⟩
      · rw [htk]
        intro x hx
        rcases List.mem_append.mp hx with hx | hx
        · exact q1 x hx
        · obtain rfl := List.mem_singleton.mp hx
          exact h1
      · rw [htk, List.nodup_append]
        exact ⟨q2, by simp, fun a ha b hb e => h2 (by obtain rfl := List.mem_singleton.mp hb; exact e ▸ ha)⟩
    · rename_i h1
      walk_at "go"
      exact q_bl h (dec_f fun z => h1 (z.1 _ hmem))
  rintro a0 L' ⟨rfl, q1, q2⟩
  walk_at "sl"
  walk_at "w"
  walk_at "go"
  have e : ts.take ((ts.length : Int)).toNat = ts := by simp
  rw [e] at q1 q2
  exact q_bl h (decide_eq_true ⟨q1, q2⟩)
theorem ok_is_whole (T : Txt K mg) (G_journal_check : OkF P w K mg base 2 "journal_check" ["count", "targets", "rows"] (sp_journal_check K)) (G_are_homes : OkF P w K mg base 3 "are_homes" ["layout", "targets"] (sp_are_homes K)) : OkF P w K mg base 4 "is_whole" ["layout", "volume"] (sp_is_whole K) := by
  obtain ⟨fd, F⟩ := T.f_is_whole
  refine ⟨T.g_is_whole, fd, fn_ok2 F sc_is_whole (len2 rfl) (fun cdv A outer s H E hr => have hu := hr.units; ⟨_, ((lss_cons (ls_set 2 sc_is_whole.nd (lix (kx_ix K hu) (lv 1) (lglobI rfl T.i_JOURNAL) (fun _ _ => rfl)))
      (lss_cons (ls_set 3 sc_is_whole.nd (lix (kx_ix K hu) (lv 2) lint (fun _ _ => rfl)))
      (lss_cons (ls_if (LW.pt (lw_or (lt_cmp lo_lt (lv 3) lint (nomark _)) (lw_or1 (lt_cmp lo_gt (lv 3) (lglobI rfl T.i_ROOM) (nomark _))))) (lss_one (ls_ret lbl)) lss_nil)
      (lss_cons (ls_set 4 sc_is_whole.nd (lslice (ksl_ok K) (lv 2) (lo_some lint) lo_none))
      (lss_cons (ls_if (LW.pt (lw_or (lt_not (kt_truth K (lcallO G_are_homes (hr.mono (by decide)) rfl (la_cons (lv 0) (la_cons (lslice (ksl_ok K) (lv 4) lo_none (lo_some (lv 3))) la_nil))))) (lw_or1 (lt_cmp (ko_ne K hu) (lslice (ksl_ok K) (lv 4) (lo_some (lv 3)) lo_none) (lop lo_mul (llst (la_cons lint la_nil)) (lop lo_sub (lglobI rfl T.i_ROOM) (lv 3))) (nomark _))))) (lss_one (ls_ret lbl)) lss_nil)
      (lss_one (ls_ret (lcmp (ko_eq K hu) (lix (kx_ix K hu) (lv 2) lint (fun _ _ => rfl)) (lcallO G_journal_check (hr.mono (by decide)) rfl (la_cons (lv 3) (la_cons (lv 4) (la_cons (lslice (ksl_ok K) (lv 1) (lo_some (lglobI rfl T.i_ROWS)) (lo_some (lop (ko_add K) (lglobI rfl T.i_ROWS) (lv 3)))) la_nil)))) (nomark _)))))))))), fun vs L Q EL σ h hσ => ?_⟩), F.bindsN (fun _ _ _ _ _ _ us hl => match us, hl with | [_, _], _ => rfl), F.kp⟩
  obtain ⟨x0, x1, rfl, h⟩ := h
  have hσ : ([some x0, some x1, none, none, none] : St) = σ := hσ
  subst hσ
  clear hσ hu hr F
  clear G_journal_check G_are_homes
  obtain ⟨q, dx, F, E, B, p, as, rows, rfl, rfl, hb, hm, hv, hl, hn, h8, h⟩ := h
  have hb' := hb
  unfold inB at hb'
  have hr3 := rowAt_len h8 (j := 3) (by omega) (by omega)
  have htl : (tgW rows).length = 6 := by rw [tgW_eq, List.length_drop, hr3]
  unfold tgW at htl
  have hct : (cutG (cutG (rowAt rows 3) (some 2) none) none (some ((rowAt rows 3).getD 0 0))).length ≤ 10 := Nat.le_trans cutG_len (by omega)
  unfold wholeM tgW at h
  walk_at "w"
  · rename_i h1
    walk_at "go"
    exact q_bl h (dec_f fun z => by omega)
  · rename_i h1 h2
    walk_at "go"
    exact q_bl h (dec_f fun z => by omega)
  · walk_at "g1"
    refine Wk.by_ (by walk_at "lic") (q_bl h (dec_c ⟨fun z => z.2.2.2.2, fun z => ⟨by omega, by omega, by assumption, by assumption, z⟩⟩))
  · walk_at "g1"
    exact Wk.by_ (by walk_at "lic") (q_bl h (dec_f fun z => absurd z.2.2.2.1 (by assumption)))
  · walk_at "g1"
    exact Wk.by_ (by walk_at "lic") (q_bl h (dec_f fun z => absurd z.2.2.1 (by assumption)))
theorem ok_wrong_journal (T : Txt K mg) (G_is_whole : OkF P w K mg base 4 "is_whole" ["layout", "volume"] (sp_is_whole K)) : OkF P w K mg base 5 "wrong_journal" ["layout", "volume"] (sp_wrong_journal K) := by
  obtain ⟨fd, F⟩ := T.f_wrong_journal
  refine ⟨T.g_wrong_journal, fd, fn_ok2 F sc_wrong_journal (len2 rfl) (fun cdv A outer s H E hr => have hu := hr.units; ⟨_, ((lss_cons (ls_set 2 sc_wrong_journal.nd (lix (kx_ix K hu) (lv 1) (lglobI rfl T.i_JOURNAL) (fun _ _ => rfl)))
      (lss_cons (ls_set 3 sc_wrong_journal.nd (llst la_nil))
      (lss_cons (ls_join (ls_if (kt_truth K (lcallO G_is_whole (hr.mono (by decide)) rfl (la_cons (lv 0) (la_cons (lv 1) la_nil)))) (lss_one (ls_for PassesOwn.never rfl (li_range1 rfl T.n_range (la_cons (lix (kx_ix K hu) (lv 2) lint (fun _ _ => rfl)) la_nil)) (lg_name 4 sc_wrong_journal.nd) (lss_one (ls_for PassesOwn.never rfl (li_range1 rfl T.n_range (la_cons (lglobI rfl T.i_WIDE) la_nil)) (lg_name 5 sc_wrong_journal.nd) (lss_cons (ls_set 6 sc_wrong_journal.nd (lix (kx_ix K hu) (lix (kx_ix K hu) (lv 1) (lop (ko_add K) (lglobI rfl T.i_ROWS) (lv 4)) (fun _ _ => rfl)) (lv 5) (fun _ _ => rfl)))
      (lss_one (ls_if (lt_cmp (ko_ne K hu) (lix (kx_ix K hu) (lix (kx_ix K hu) (lv 1) (lix (kx_ix K hu) (lv 2) (lop (ko_add K) lint (lv 4)) (fun _ _ => rfl)) (fun _ _ => rfl)) (lv 5) (fun _ _ => rfl)) (lv 6) (nomark _)) (lss_one (ls_expr (kbm K PySem.F.plainAttrs_list PySem.F.slot_list_append PySem.F.type_list_append lm_append (lv 3) (la_cons (ltup (la_cons (lix (kx_ix K hu) (lv 2) (lop (ko_add K) lint (lv 4)) (fun _ _ => rfl)) (la_cons (lv 5) (la_cons (lv 6) la_nil)))) la_nil)))) lss_nil))))))) lss_nil))
      (lss_cons (ls_for PassesOwn.never rfl (li_range1 rfl T.n_range (la_cons (lglobI rfl T.i_WIDE) la_nil)) (lg_name 5 sc_wrong_journal.nd) (lss_one (ls_if (lt_cmp (ko_ne K hu) (lix (kx_ix K hu) (lv 2) (lv 5) (fun _ _ => rfl)) lint (nomark _)) (lss_one (ls_expr (kbm K PySem.F.plainAttrs_list PySem.F.slot_list_append PySem.F.type_list_append lm_append (lv 3) (la_cons (ltup (la_cons (lglobI rfl T.i_JOURNAL) (la_cons (lv 5) (la_cons lint la_nil)))) la_nil)))) lss_nil)))
      (lss_one (ls_ret (lv 3)))))))), fun vs L Q EL σ h hσ => ?_⟩), F.bindsN (fun _ _ _ _ _ _ us hl => match us, hl with | [_, _], _ => rfl), F.kp⟩
  obtain ⟨x0, x1, rfl, h⟩ := h
  have hσ : ([some x0, some x1, none, none, none, none, none] : St) = σ := hσ
  subst hσ
  clear hσ hu hr F
  clear G_is_whole
  obtain ⟨q, dx, F, E, B, p, as, rows, rfl, rfl, hb, hm, hv, hl, hn, h8, h⟩ := h
  have hb' := hb
  unfold inB at hb'
  have hr3 := rowAt_len h8 (j := 3) (by omega) (by omega)
  walk_at "w"
  rename_i D
  have hA : wholeM F E B rows → (rowAt rows 3).getD 0 0 ≤ 6 := fun z => z.2.1
  refine' sj_3 (k0 := 4) (k1 := 5) (k2 := 6) (fun L' => ∃ c ts, LdT c D ts ∧ ts.length ≤ 48 ∧ L' = c :: L ∧ ts ++ accM (fun p : Nat => jhst rows p) 8 = journalW F E B rows) ?j1 ?j2
  case j1 =>
    walk_at "w"
    · rename_i hw
      have hw6 := hw.2.1
      have hw1 := hw.1
      walk_at "w"
      refine' fr_3 (k0 := 4) (k1 := 5) (k2 := 6) (fun i L' => ∃ c, LdT c D (hjM rows i) ∧ L' = c :: L) ?i0 ?is ?id
      case i0 => exact Wk.go ⟨_, LdT.nil, rfl⟩
      case is =>
        rintro i a0 a1 a2 L' hi ⟨c, hc, rfl⟩
        have hhm := whole_home hw hr3 (a := (i : Int)) (by omega) (by omega)
        unfold isHomeM at hhm
        have hz := hjM_len rows i
        have hra := rowAt_len h8 (j := 4 + (i : Int)) (by omega) (by omega)
        have hrb := rowAt_len h8 (j := (rowAt rows 3).getD (2 + (i : Int)).toNat 0) (by omega) (by omega)
        walk_at "sl"
        walk_at "w"
        refine' fr_2 (k0 := 5) (k1 := 6) (fun j L' => ∃ c, LdT c D (hjM rows i ++ accM (fun p : Nat => hjst rows i p) j) ∧ L' = c :: L) ?m0 ?ms ?md
        case m0 => exact Wk.go ⟨_, LdT.to hc (by simp [accM]), rfl⟩
        case ms =>
          rintro j b0 b1 L' hj ⟨c, hc, rfl⟩
          have hz2 := accM_len (g := fun p : Nat => hjst rows i p) (fun p => hjst_len rows i p) j
          walk_at "sl"
          walk_at "w"
          all_goals walk_at "g1"
          all_goals (refine' Wk.by_ ?l ⟨rfl, _, LdT.to ?h1 ?h2, rfl⟩; (case h1 => assumption); (case h2 => (rw [accM_succ]; unfold hjst; split <;> first | (exfalso; first | omega | exact absurd ‹_› ‹_›) | simp)); (case l => walk_at "lic"))
        rintro b0 b1 L' ⟨c, hc, rfl⟩
        walk_at "sl"
        walk_at "w"
        walk_at "g1"
        have hc' : LdT c D (hjM rows (i + 1)) := LdT.to hc (by unfold hjM; rw [accM_succ]; rfl)
        exact Wk.by_ (L' := c :: L) (by walk_at "lic") ⟨rfl, c, hc', rfl⟩
      rintro a0 a1 a2 L' ⟨c, hc, rfl⟩
      walk_at "sl"
      walk_at "w"
      walk_at "g1"
      have hz := hjM_len rows ((rowAt rows 3).getD 0 0).toNat
      exact Wk.by_ (L' := c :: L) (by walk_at "lic") ⟨rfl, c, _, hc, by omega, rfl, by unfold journalW; rw [if_pos hw]⟩
    · rename_i hw
      walk_at "g1"
      exact Wk.by_ (by walk_at "lic") ⟨rfl, _, [], LdT.nil, by simp, rfl, by unfold journalW; rw [if_neg hw]⟩
  rintro a0 a1 a2 L' ⟨c, ts, hc, hz, rfl, hts⟩
  walk_at "sl"
  walk_at "w"
  refine' fr_1 (k0 := 5) (fun j L' => ∃ c, LdT c D (ts ++ accM (fun p : Nat => jhst rows p) j) ∧ L' = c :: L) ?h0 ?hs ?hd
  case h0 => exact Wk.go ⟨_, LdT.to hc (by simp [accM]), rfl⟩
  case hs =>
    rintro j b0 L' hj ⟨c, hc, rfl⟩
    have hz2 := accM_len (g := fun p : Nat => jhst rows p) (fun p => jhst_len rows p) j
    walk_at "sl"
    walk_at "w"
    all_goals walk_at "g1"
    all_goals (refine' Wk.by_ ?l ⟨rfl, _, LdT.to ?h1 ?h2, rfl⟩; (case h1 => assumption); (case h2 => (rw [accM_succ]; unfold jhst; split <;> first | (exfalso; first | omega | exact absurd ‹_› ‹_›) | simp)); (case l => walk_at "lic"))
  rintro b0 L' ⟨c, hc, rfl⟩
  walk_at "sl"
  walk_at "w"
  walk_at "go"
  exact h _ _ (LdT.to hc hts.symm)
theorem ok_head_row (T : Txt K mg) (G_check_of : OkF P w K mg base 1 "check_of" ["numbers"] (sp_check_of K)) : OkF P w K mg base 2 "head_row" ["layout", "label"] (sp_head_row K) := by
  obtain ⟨fd, F⟩ := T.f_head_row
  refine ⟨T.g_head_row, fd, fn_ok2 F sc_head_row (len2 rfl) (fun cdv A outer s H E hr => have hu := hr.units; ⟨_, ((lss_cons (ls_set 2 sc_head_row.nd (llst (la_cons (lglobI rfl T.i_MARK) (la_cons (lv 1) (la_cons (kfld K (lv 0)) (la_cons (kfld K (lv 0)) (la_cons (kfld K (lv 0)) (la_cons lint (la_cons lint la_nil)))))))))
      (lss_one (ls_ret (lop (ko_add K) (lv 2) (llst (la_cons (lcallO G_check_of (hr.mono (by decide)) rfl (la_cons (lv 2) la_nil)) la_nil))))))), fun vs L Q EL σ h hσ => ?_⟩), F.bindsN (fun _ _ _ _ _ _ us hl => match us, hl with | [_, _], _ => rfl), F.kp⟩
  obtain ⟨x0, x1, rfl, h⟩ := h
  have hσ : ([some x0, some x1, none] : St) = σ := hσ
  subst hσ
  clear hσ hu hr F
  clear G_check_of
  have t_cl_Layout := T.cl_Layout
  have t_na_Layout_files := T.na_Layout_files
  have t_na_Layout_slots := T.na_Layout_slots
  have t_na_Layout_data := T.na_Layout_data
  obtain ⟨p, dx, F, E, B, l, rfl, rfl, hm, h⟩ := h
  walk_at "w"
  exact Wk.by_ (by walk_at "lic") (h _)
theorem ok_due_head (T : Txt K mg) (G_head_row : OkF P w K mg base 2 "head_row" ["layout", "label"] (sp_head_row K)) : OkF P w K mg base 3 "due_head" ["layout", "volume"] (sp_due_head K) := by
  obtain ⟨fd, F⟩ := T.f_due_head
  refine ⟨T.g_due_head, fd, fn_ok2 F sc_due_head (len2 rfl) (fun cdv A outer s H E hr => have hu := hr.units; ⟨_, ((lss_cons (ls_for PassesOwn.never rfl (ki_list K (lslice (ksl_ok K) (lv 1) lo_none (lo_some lint))) (lg_name 2 sc_due_head.nd) (lss_one (ls_if (lt_cmp (ko_eq K hu) (lv 2) (lcallO G_head_row (hr.mono (by decide)) rfl (la_cons (lv 0) (la_cons (lix (kx_ix K hu) (lv 2) lint (fun _ _ => rfl)) la_nil))) (nomark _)) (lss_one (ls_ret (lv 2))) lss_nil)))
      (lss_one (ls_ret (lcallO G_head_row (hr.mono (by decide)) rfl (la_cons (lv 0) (la_cons lint la_nil))))))), fun vs L Q EL σ h hσ => ?_⟩), F.bindsN (fun _ _ _ _ _ _ us hl => match us, hl with | [_, _], _ => rfl), F.kp⟩
  obtain ⟨x0, x1, rfl, h⟩ := h
  have hσ : ([some x0, some x1, none] : St) = σ := hσ
  subst hσ
  clear hσ hu hr F
  clear G_head_row
  obtain ⟨q, dx, F, E, B, p, as, rows, rfl, rfl, hb, hm, hv, hl, hn, h8, h⟩ := h
  have hb' := hb
  unfold inB at hb'
  walk_at "w"
  rename_i W
  first | rw [cutV_map, cutG_hi (by omega)] | rw [cutG_hi (by omega)]
  have hal : (as.take (2 : Int).toNat).length = 2 := by simp; omega
  refine' fv_1 (k0 := 2) (fun i L' => L' = [(W, .lst ((as.take (2 : Int).toNat).map V.ref))] :: L ∧ (1 ≤ i → ¬ rowAt rows 0 = headM F E B ((rowAt rows 0).getD 1 0)) ∧ (2 ≤ i → ¬ rowAt rows 1 = headM F E B ((rowAt rows 1).getD 1 0))) ?h0 ?hG ?hs ?hd
  case h0 => exact Wk.go ⟨rfl, (fun h => absurd h (by omega)), (fun h => absurd h (by omega))⟩
  case hG => rintro i L' ⟨rfl, _, _⟩; exact IsL.at_ At.hd1
  case hs =>
    rintro i a0 L' hi ⟨rfl, q0, q1⟩
    rw [hal] at hi
    rw [adrAt_take (by omega)]
    have hr := rowAt_len h8 (j := (i : Int)) (by omega) (by omega)
    walk_at "sl"
    walk_at "w"
    · rename_i he
      have hdue : dueH F E B rows = rowAt rows i := by
        unfold dueH
        obtain rfl | rfl : i = 0 ∨ i = 1 := by omega
        · exact if_pos he
        · rw [if_neg (q0 (by omega))]; exact if_pos he
      walk_at "g1"
      refine Wk.by_ (L' := [] :: L) (LicS.lic (LicS.empty (by walk_at "lics"))) (h _ _ ?_)
      rw [hdue]
      exact StR.vol hl (by omega) (by omega)
    · rename_i he
      walk_at "g1"
      refine' Wk.by_ ?l ⟨rfl, rfl, ?a, ?b⟩
      case l => walk_at "lic"
      case a =>
        intro _
        rcases Nat.eq_zero_or_pos i with rfl | hp
        · exact he
        · exact q0 hp
      case b =>
        intro h2
        obtain rfl : i = 1 := by omega
        exact he
  rintro a0 L' ⟨rfl, q0, q1⟩
  rw [hal] at q0 q1
  walk_at "sl"
  walk_at "w"
  refine Wk.by_ (by walk_at "lic") (h _ _ ?_)
  have hdue : dueH F E B rows = headM F E B 0 := by
    unfold dueH
    rw [if_neg (q0 (by omega)), if_neg (q1 (by omega))]
  rw [hdue]
  exact StR.new
theorem ok_wrong_heads (T : Txt K mg) (G_due_head : OkF P w K mg base 3 "due_head" ["layout", "volume"] (sp_due_head K)) : OkF P w K mg base 4 "wrong_heads" ["layout", "volume"] (sp_wrong_heads K) := by
  obtain ⟨fd, F⟩ := T.f_wrong_heads
  refine ⟨T.g_wrong_heads, fd, fn_ok2 F sc_wrong_heads (len2 rfl) (fun cdv A outer s H E hr => have hu := hr.units; ⟨_, ((lss_cons (ls_set 2 sc_wrong_heads.nd (lcallO G_due_head (hr.mono (by decide)) rfl (la_cons (lv 0) (la_cons (lv 1) la_nil))))
      (lss_cons (ls_set 3 sc_wrong_heads.nd (llst la_nil))
      (lss_cons (ls_for PassesOwn.never rfl (li_range1 rfl T.n_range (la_cons lint la_nil)) (lg_name 4 sc_wrong_heads.nd) (lss_one (ls_for PassesOwn.never rfl (ki_tup K (ltup (la_cons lint (la_cons lint (la_cons lint (la_cons lint (la_cons lint (la_cons lint (la_cons lint (la_cons lint la_nil)))))))))) (lg_name 5 sc_wrong_heads.nd) (lss_one (ls_if (lt_cmp (ko_ne K hu) (lix (kx_ix K hu) (lix (kx_ix K hu) (lv 1) (lv 4) (fun _ _ => rfl)) (lv 5) (fun _ _ => rfl)) (lix (kx_ix K hu) (lv 2) (lv 5) (fun _ _ => rfl)) (nomark _)) (lss_one (ls_expr (kbm K PySem.F.plainAttrs_list PySem.F.slot_list_append PySem.F.type_list_append lm_append (lv 3) (la_cons (ltup (la_cons (lv 4) (la_cons (lv 5) (la_cons (lix (kx_ix K hu) (lv 2) (lv 5) (fun _ _ => rfl)) la_nil)))) la_nil)))) lss_nil)))))
      (lss_one (ls_ret (lv 3))))))), fun vs L Q EL σ h hσ => ?_⟩), F.bindsN (fun _ _ _ _ _ _ us hl => match us, hl with | [_, _], _ => rfl), F.kp⟩
  obtain ⟨x0, x1, rfl, h⟩ := h
  have hσ : ([some x0, some x1, none, none, none, none] : St) = σ := hσ
  subst hσ
  clear hσ hu hr F
  clear G_due_head
  obtain ⟨q, dx, F, E, B, p, as, rows, rfl, rfl, hb, hm, hv, hl, hn, h8, h⟩ := h
  have hb' := hb
  unfold inB at hb'
  have hd8 := dueH_8 (F := F) (E := E) (B := B) h8 (by omega)
  walk_at "w"
  rename_i dr dc hdr D
  refine' fr_2 (k0 := 4) (k1 := 5) (fun i L' => ∃ c, LdT c D (accM (fun b : Nat => accL (fun p => hst rows (dueH F E B rows) b p) ordH) i) ∧ L' = c :: dc :: L) ?h0 ?hs ?hd
  case h0 => exact Wk.go ⟨_, LdT.nil, rfl⟩
  case hs =>
    rintro b a0 a1 L' hb2 ⟨c, hc, rfl⟩
    have hz := heads_len rows (dueH F E B rows) b
    have hr := rowAt_len h8 (j := (b : Int)) (by omega) (by omega)
    walk_at "sl"
    walk_at "w"
    rename_i T
    refine' fit_1 (k0 := 5) (ns := ordH) (fun i L' => ∃ c, LdT c D (accM (fun b : Nat => accL (fun p => hst rows (dueH F E B rows) b p) ordH) b ++ accL (fun p => hst rows (dueH F E B rows) b p) (ordH.take i)) ∧ L' = [(T, .tup (ordH.map V.int))] :: c :: dc :: L) (by exact IntsV.map (ns := ordH)) ?h01 ?hG1 ?hs1 ?hd1
    case h01 => exact Wk.go ⟨_, LdT.to hc (by simp [accL]), rfl⟩
    case hG1 => rintro i L' ⟨c, hc, rfl⟩; exact IsT.at_ At.hd1
    case hs1 =>
      rintro i x a0 L' hi ⟨c, hc, rfl⟩
      have hx : 0 ≤ x ∧ x < 8 := by
        have := List.mem_of_getElem? hi
        simp only [ordH, List.mem_cons, List.not_mem_nil, or_false] at this
        omega
      have hz2 := accL_len (g := fun p => hst rows (dueH F E B rows) b p) (fun p => hst_len _ _ _ p) (ordH.take i)
      have hz3 : (ordH.take i).length ≤ 8 := by rw [List.length_take]; exact Nat.min_le_right _ _
      walk_at "sl"
      walk_at "w"
      all_goals walk_at "g1"
      all_goals (refine' Wk.by_ ?l ⟨rfl, _, LdT.to ?h1 ?h2, rfl⟩; (case h1 => assumption); (case h2 => (rw [accL_take _ hi]; unfold hst; split <;> first | (exfalso; first | omega | exact absurd ‹_› ‹_›) | simp)); (case l => walk_at "lic"))
    rintro a0 L' ⟨c, hc, rfl⟩
    walk_at "sl"
    walk_at "w"
    walk_at "g1"
    have hc' : LdT c D (accM (fun b : Nat => accL (fun p => hst rows (dueH F E B rows) b p) ordH) (b + 1)) := LdT.to hc (by rw [accM_succ]; rfl)
    exact Wk.by_ (L' := c :: dc :: L) (by walk_at "lic") ⟨rfl, c, hc', rfl⟩
  rintro a0 a1 L' ⟨c, hc, rfl⟩
  walk_at "sl"
  walk_at "w"
  exact Wk.by_ (by walk_at "lic") (h _ _ hc)
theorem ok_wrong_bounds (T : Txt K mg) : OkF P w K mg base 1 "wrong_bounds" ["layout", "volume"] (sp_wrong_bounds K) := by
  obtain ⟨fd, F⟩ := T.f_wrong_bounds
  refine ⟨T.g_wrong_bounds, fd, fn_ok2 F sc_wrong_bounds (len2 rfl) (fun cdv A outer s H E hr => have hu := hr.units; ⟨_, ((lss_cons (ls_set 2 sc_wrong_bounds.nd (llst la_nil))
      (lss_cons (ls_for PassesOwn.never rfl (li_range1 rfl T.n_range (la_cons (lcallB (kk_len K) (by rfl) T.n_len (by decide +kernel) (la_cons (lv 1) la_nil)) la_nil)) (lg_name 3 sc_wrong_bounds.nd) (lss_one (ls_for PassesOwn.never rfl (li_range1 rfl T.n_range (la_cons (lglobI rfl T.i_WIDE) la_nil)) (lg_name 4 sc_wrong_bounds.nd) (lss_one (ls_if (LW.pt (lw_or (lt_cmp lo_lt (lix (kx_ix K hu) (lix (kx_ix K hu) (lv 1) (lv 3) (fun _ _ => rfl)) (lv 4) (fun _ _ => rfl)) lint (nomark _)) (lw_or1 (lt_cmp lo_gt (lix (kx_ix K hu) (lix (kx_ix K hu) (lv 1) (lv 3) (fun _ _ => rfl)) (lv 4) (fun _ _ => rfl)) (lglobI rfl T.i_TOP) (nomark _))))) (lss_one (ls_expr (kbm K PySem.F.plainAttrs_list PySem.F.slot_list_append PySem.F.type_list_append lm_append (lv 2) (la_cons (ltup (la_cons (lv 3) (la_cons (lv 4) (la_cons lint la_nil)))) la_nil)))) lss_nil)))))
      (lss_one (ls_ret (lv 2)))))), fun vs L Q EL σ h hσ => ?_⟩), F.bindsN (fun _ _ _ _ _ _ us hl => match us, hl with | [_, _], _ => rfl), F.kp⟩
  obtain ⟨x0, x1, rfl, h⟩ := h
  have hσ : ([some x0, some x1, none, none, none] : St) = σ := hσ
  subst hσ
  clear hσ hu hr F
  obtain ⟨q, dx, F, E, B, p, as, rows, rfl, rfl, hb, hm, hv, hl, hn, h8, h⟩ := h
  have hb' := hb
  unfold inB at hb'
  walk_at "w"
  rename_i D
  refine' fr_2 (k0 := 3) (k1 := 4) (fun i L' => ∃ c, LdT c D (accM (fun b : Nat => accM (fun a : Nat => bst rows b a) 8) i) ∧ L' = c :: L) ?i0 ?is ?id
  case i0 => exact Wk.go ⟨_, LdT.nil, rfl⟩
  case is =>
    rintro i a0 a1 L' hi ⟨c, hc, rfl⟩
    have hz := accM_len8 (g := fun b : Nat => accM (fun a : Nat => bst rows b a) 8) (fun b => accM_len (fun a => bst_len rows b a) 8) i
    have hra := rowAt_len h8 (j := (i : Int)) (by omega) (by omega)
    walk_at "sl"
    walk_at "w"
    refine' fr_1 (k0 := 4) (fun j L' => ∃ c, LdT c D (accM (fun b : Nat => accM (fun a : Nat => bst rows b a) 8) i ++ accM (fun a : Nat => bst rows i a) j) ∧ L' = c :: L) ?m0 ?ms ?md
    case m0 => exact Wk.go ⟨_, LdT.to hc (by simp [accM]), rfl⟩
    case ms =>
      rintro j b0 L' hj ⟨c, hc, rfl⟩
      have hz2 := accM_len (g := fun a : Nat => bst rows i a) (fun a => bst_len rows i a) j
      walk_at "sl"
      walk_at "w"
      all_goals walk_at "g1"
      all_goals (refine' Wk.by_ ?l ⟨rfl, _, LdT.to ?h1 ?h2, rfl⟩; (case h1 => assumption); (case h2 => (rw [accM_succ]; unfold bst cel; split <;> first | (exfalso; omega) | simp)); (case l => walk_at "lic"))
    rintro b0 L' ⟨c, hc, rfl⟩
    walk_at "sl"
    walk_at "w"
    walk_at "g1"
    exact Wk.by_ (L' := c :: L) (by walk_at "lic") ⟨rfl, c, LdT.to hc (by rw [accM_succ]; rfl), rfl⟩
  rintro a0 a1 L' ⟨c, hc, rfl⟩
  walk_at "sl"
  walk_at "w"
  walk_at "g1"
  have e : (as.length : Int).toNat = rows.length := by omega
  rw [e] at hc
  exact Wk.go (h _ _ hc)
theorem ok_wrong_early (T : Txt K mg) (G_wrong_sizes : OkF P w K mg base 2 "wrong_sizes" ["layout", "volume"] (sp_wrong_sizes K)) (G_wrong_kinds : OkF P w K mg base 2 "wrong_kinds" ["layout", "volume"] (sp_wrong_kinds K)) (G_wrong_journal : OkF P w K mg base 5 "wrong_journal" ["layout", "volume"] (sp_wrong_journal K)) (G_wrong_heads : OkF P w K mg base 4 "wrong_heads" ["layout", "volume"] (sp_wrong_heads K)) (G_wrong_bounds : OkF P w K mg base 1 "wrong_bounds" ["layout", "volume"] (sp_wrong_bounds K)) : OkF P w K mg base 6 "wrong_early" ["layout", "volume", "clause"] (sp_wrong_early K) := by
  obtain ⟨fd, F⟩ := T.f_wrong_early
  refine ⟨T.g_wrong_early, fd, fn_ok2 F sc_wrong_early (len3 rfl) (fun cdv A outer s H E hr => have hu := hr.units; ⟨_, ((lss_cons (ls_if (lt_cmp (ko_eq K hu) (lv 2) lstr (nomark _)) (lss_one (ls_ret (lcallO G_wrong_bounds (hr.mono (by decide)) rfl (la_cons (lv 0) (la_cons (lv 1) la_nil))))) lss_nil)
      (lss_cons (ls_if (lt_cmp (ko_eq K hu) (lv 2) lstr (nomark _)) (lss_one (ls_ret (lcallO G_wrong_heads (hr.mono (by decide)) rfl (la_cons (lv 0) (la_cons (lv 1) la_nil))))) lss_nil)
      (lss_cons (ls_if (lt_cmp (ko_eq K hu) (lv 2) lstr (nomark _)) (lss_one (ls_ret (lcallO G_wrong_journal (hr.mono (by decide)) rfl (la_cons (lv 0) (la_cons (lv 1) la_nil))))) lss_nil)
      (lss_cons (ls_if (lt_cmp (ko_eq K hu) (lv 2) lstr (nomark _)) (lss_one (ls_ret (lcallO G_wrong_kinds (hr.mono (by decide)) rfl (la_cons (lv 0) (la_cons (lv 1) la_nil))))) lss_nil)
      (lss_one (ls_ret (lcallO G_wrong_sizes (hr.mono (by decide)) rfl (la_cons (lv 0) (la_cons (lv 1) la_nil)))))))))), fun vs L Q EL σ h hσ => ?_⟩), F.bindsN (fun _ _ _ _ _ _ us hl => match us, hl with | [_, _, _], _ => rfl), F.kp⟩
  obtain ⟨x0, x1, x2, rfl, h⟩ := h
  have hσ : ([some x0, some x1, some x2] : St) = σ := hσ
  subst hσ
  clear hσ hu hr F
  clear G_wrong_sizes G_wrong_kinds G_wrong_journal G_wrong_heads G_wrong_bounds
  obtain ⟨q, dx, F, E, B, p, as, rows, cl, ts, rfl, rfl, rfl, hb, hm, hv, hl, hn, h8, ⟨i, hi, rfl, rfl⟩, h⟩ := h
  have hb' := hb
  unfold inB at hb'
  have : i = 0 ∨ i = 1 ∨ i = 2 ∨ i = 3 ∨ i = 4 := by omega
  rcases this with rfl | rfl | rfl | rfl | rfl
  all_goals (simp only [CLn, CLs, List.getD_cons_zero, List.getD_cons_succ])
  all_goals walk_at "w"
  all_goals walk_at "g1"
  all_goals first
    | exact Wk.go (h _ _ (by assumption))
theorem ok_Layout_data_at (T : Txt K mg) {f : Addr} (FF : ∃ fd, FunD K "data_at" "Layout.data_at" (defArgs s_Layout_data_at) (defBody s_Layout_data_at) (defScope s_Layout_data_at) ([] : List V) [] f fd) : OkM P w K mg base 1 f ["self", "place"] (sp_Layout_data_at K) := by
  obtain ⟨fd, F⟩ := FF
  refine ⟨fd, fn_ok2 F sc_Layout_data_at (len2 rfl) (fun cdv A outer s H E hr => have hu := hr.units; ⟨_, ((lss_one (ls_ret (lop (ko_add K) (lop (ko_add K) (lop (ko_add K) (lglobI rfl T.i_RECORDS) (kfld K (lv 0))) (kfld K (lv 0))) (lv 1))))), fun vs L Q EL σ h hσ => ?_⟩), F.bindsN (fun _ _ _ _ _ _ us hl => match us, hl with | [_, _], _ => rfl), F.kp⟩
  obtain ⟨x0, x1, rfl, h⟩ := h
  have hσ : ([some x0, some x1] : St) = σ := hσ
  subst hσ
  clear hσ hu hr F
  have t_cl_Layout := T.cl_Layout
  have t_na_Layout_files := T.na_Layout_files
  have t_na_Layout_slots := T.na_Layout_slots
  have t_na_Layout_data := T.na_Layout_data
  obtain ⟨p, dx, F, E, B, m, rfl, rfl, hm, h⟩ := h
  walk_at "w"
  exact Wk.go h
theorem ok_map_row (T : Txt K mg) (G_Layout_data_at : OkM P w K mg base 1 (He.ma K (He.ga K "Layout") "data_at") ["self", "place"] (sp_Layout_data_at K)) : OkF P w K mg base 2 "map_row" ["layout", "blocks"] (sp_map_row K) := by
  obtain ⟨fd, F⟩ := T.f_map_row
  refine ⟨T.g_map_row, fd, fn_ok2 F sc_map_row (len2 rfl) (fun cdv A outer s H E hr => have hu := hr.units; ⟨_, ((lss_cons (ls_set 2 sc_map_row.nd (lop lo_mul (llst (la_cons lint la_nil)) (lglobI rfl T.i_WIDE)))
      (lss_cons (ls_for PassesOwn.never rfl (ki_list K (lv 1)) (lg_name 3 sc_map_row.nd) (lss_cons (ls_asg (lcallB lk_divmod (by rfl) T.n_divmod (by decide +kernel) (la_cons (lop lo_sub (lv 3) (lmethO T.cl_Layout T.me_Layout_data_at G_Layout_data_at (hr.mono (by decide)) (lv 0) (la_cons lint la_nil))) (la_cons (lglobI rfl T.i_BITS) la_nil))) (kg_tup K (n := 2) rfl (lgs_cons (lg_name 4 sc_map_row.nd) (lgs_cons (lg_name 5 sc_map_row.nd) lgs_nil))))
      (lss_one (ls_asg (lop lo_or (lix (kx_ix K hu) (lv 2) (lv 4) (fun _ _ => rfl)) (lop lo_shl lint (lv 5))) (lg_sub (lv 2) (lv 4) (lset_ok hu))))))
      (lss_one (ls_ret (lv 2)))))), fun vs L Q EL σ h hσ => ?_⟩), F.bindsN (fun _ _ _ _ _ _ us hl => match us, hl with | [_, _], _ => rfl), F.kp⟩
  obtain ⟨x0, x1, rfl, h⟩ := h
  have hσ : ([some x0, some x1, none, none, none, none] : St) = σ := hσ
  subst hσ
  clear hσ hu hr F
  clear G_Layout_data_at
  obtain ⟨q, dx, F, E, B, r, tk, rfl, rfl, hb, hm, hr, hin, h⟩ := h
  have hb' := hb
  unfold inB at hb'
  walk_at "w"
  rename_i D
  refine' fi_3 (k0 := 3) (k1 := 4) (k2 := 5) (fun i L' => L' = [(D, HO.lst ((mapM (10 + F + E) (tk.take i)).map V.int))] :: L) IntsV.map ?i0 ?iG ?is ?id
  case i0 => exact Wk.by_ (L' := [(D, HO.lst ((List.replicate (Int.toNat 8) (0 : Int)).map V.int))] :: L) (by walk_at "lic") rfl
  case iG => rintro i L' rfl; exact IsL.at_ (At.tl hr)
  case is =>
    rintro i x a0 a1 a2 L' hi rfl
    have hx := hin x (List.mem_of_getElem? hi)
    have hl := mapM_len (lo := 10 + F + E) (tk.take i)
    have e := mapM_take (lo := 10 + F + E) hi
    have e0 : 10 + F + E + 0 = 10 + F + E := by omega
    unfold mstep at e
    walk_at "sl"
    walk_at "w"
    walk_at "g1"
    rw [e0]
    refine Wk.by_ (L' := [(D, HO.lst ((mapM (10 + F + E) (tk.take (i + 1))).map V.int))] :: L) ?_ ⟨rfl, rfl⟩
    rw [e]
    walk_at "lic"
  rintro a0 a1 a2 L' rfl
  walk_at "sl"
  walk_at "w"
  walk_at "g1"
  rw [List.take_length]
  exact Wk.go (h _)
theorem ok_is_file (T : Txt K mg) : OkF P w K mg base 1 "is_file" ["layout", "volume", "f"] (sp_is_file K) := by
  obtain ⟨fd, F⟩ := T.f_is_file
  refine ⟨T.g_is_file, fd, fn_ok2 F sc_is_file (len3 rfl) (fun cdv A outer s H E hr => have hu := hr.units; ⟨_, ((lss_one (ls_ret (land (lchain lo_lt lo_lt lint (lv 2) (kfld K (lv 0))) (lone (lcmp (ko_eq K hu) (lix (kx_ix K hu) (lix (kx_ix K hu) (lv 1) (lop (ko_add K) (lglobI rfl T.i_RECORDS) (lv 2)) (fun _ _ => rfl)) lint (fun _ _ => rfl)) lint (nomark _))))))), fun vs L Q EL σ h hσ => ?_⟩), F.bindsN (fun _ _ _ _ _ _ us hl => match us, hl with | [_, _, _], _ => rfl), F.kp⟩
  obtain ⟨x0, x1, x2, rfl, h⟩ := h
  have hσ : ([some x0, some x1, some x2] : St) = σ := hσ
  subst hσ
  clear hσ hu hr F
  have t_cl_Layout := T.cl_Layout
  have t_na_Layout_files := T.na_Layout_files
  have t_na_Layout_slots := T.na_Layout_slots
  have t_na_Layout_data := T.na_Layout_data
  obtain ⟨q, dx, F, E, B, p, as, rows, f, rfl, rfl, rfl, hm, hv, hl, hn, h8, h⟩ := h
  unfold kindM at h
  walk_at "w"
  all_goals walk_at "go"
  all_goals refine q_bl h ?_
  all_goals first | exact dec_t (by omega) | exact dec_f (by omega) | exact dec_c ⟨fun z => z.2.2, fun z => ⟨by omega, by omega, z⟩⟩
theorem ok_Layout_is_data (T : Txt K mg) (G_Layout_data_at : OkM P w K mg base 1 (He.ma K (He.ga K "Layout") "data_at") ["self", "place"] (sp_Layout_data_at K)) (G_Layout_many : OkM P w K mg base 1 (He.ma K (He.ga K "Layout") "many") ["self"] (sp_Layout_many K)) {f : Addr} (FF : ∃ fd, FunD K "is_data" "Layout.is_data" (defArgs s_Layout_is_data) (defBody s_Layout_is_data) (defScope s_Layout_is_data) ([] : List V) [] f fd) : OkM P w K mg base 2 f ["self", "number"] (sp_Layout_is_data K) := by
  obtain ⟨fd, F⟩ := FF
  refine ⟨fd, fn_ok2 F sc_Layout_is_data (len2 rfl) (fun cdv A outer s H E hr => have hu := hr.units; ⟨_, ((lss_one (ls_ret (lchain lo_le lo_lt (lmethO T.cl_Layout T.me_Layout_data_at G_Layout_data_at (hr.mono (by decide)) (lv 0) (la_cons lint la_nil)) (lv 1) (lmethO0 T.cl_Layout T.me_Layout_many G_Layout_many (hr.mono (by decide)) (lv 0)))))), fun vs L Q EL σ h hσ => ?_⟩), F.bindsN (fun _ _ _ _ _ _ us hl => match us, hl with | [_, _], _ => rfl), F.kp⟩
  obtain ⟨x0, x1, rfl, h⟩ := h
  have hσ : ([some x0, some x1] : St) = σ := hσ
  subst hσ
  clear hσ hu hr F
  clear G_Layout_data_at G_Layout_many
  obtain ⟨q, dx, F, E, B, n, rfl, rfl, hm, h⟩ := h
  walk_at "w"
  all_goals walk_at "go"
  all_goals refine q_bl h ?_
  all_goals first | exact dec_c (by omega) | exact dec_t (by omega) | exact dec_f (by omega)
theorem ok_walk_pointer (T : Txt K mg) (G_Layout_is_data : OkM P w K mg base 2 (He.ma K (He.ga K "Layout") "is_data") ["self", "number"] (sp_Layout_is_data K)) : OkF P w K mg base 3 "walk_pointer" ["layout", "volume", "place", "wanted", "walked"] (sp_walk_pointer K) := by
  obtain ⟨fd, F⟩ := T.f_walk_pointer
  refine ⟨T.g_walk_pointer, fd, fn_ok2 F sc_walk_pointer (len5 rfl) (fun cdv A outer s H E hr => have hu := hr.units; ⟨_, ((lss_cons (ls_asg (lv 4) (kg_tup K (n := 2) rfl (lgs_cons (lg_name 5 sc_walk_pointer.nd) (lgs_cons (lg_name 6 sc_walk_pointer.nd) lgs_nil))))
      (lss_cons (ls_set 7 sc_walk_pointer.nd (lix (kx_ix K hu) (lix (kx_ix K hu) (lv 1) (lix (kx_ix K hu) (lv 2) lint (fun _ _ => rfl)) (fun _ _ => rfl)) (lix (kx_ix K hu) (lv 2) lint (fun _ _ => rfl)) (fun _ _ => rfl)))
      (lss_cons (ls_if (lt_cmp (ko_eq K hu) (lv 7) lint (nomark _)) (lss_one (ls_ret lbl)) lss_nil)
      (lss_cons (ls_if (LW.pt (lw_and (kt_truth K (lv 3)) (lw_and (kt_truth K (lmethO T.cl_Layout T.me_Layout_is_data G_Layout_is_data (hr.mono (by decide)) (lv 0) (la_cons (lv 7) la_nil))) (lw_and1 (lt_cmp (ko_notIn K hu) (lv 7) (lv 5) (by rfl)))))) (lss_cons (ls_asg lbl (lg_sub (lv 5) (lv 7) (lset_ok hu)))
      (lss_one (ls_ret lbl))) lss_nil)
      (lss_cons (ls_expr (kbm K PySem.F.plainAttrs_list PySem.F.slot_list_append PySem.F.type_list_append lm_append (lv 6) (la_cons (ltup (la_cons (lix (kx_ix K hu) (lv 2) lint (fun _ _ => rfl)) (la_cons (lix (kx_ix K hu) (lv 2) lint (fun _ _ => rfl)) (la_cons lint la_nil)))) la_nil)))
      (lss_one (ls_ret lbl)))))))), fun vs L Q EL σ h hσ => ?_⟩), F.bindsN (fun _ _ _ _ _ _ us hl => match us, hl with | [_, _, _, _, _], _ => rfl), F.kp⟩
  obtain ⟨x0, x1, x2, x3, x4, rfl, h⟩ := h
  have hσ : ([some x0, some x1, some x2, some x3, some x4, none, none, none] : St) = σ := hσ
  subst hσ
  clear hσ hu hr F
  clear G_Layout_is_data
  obtain ⟨q, dx, F, E, B, p, as, rows, t, bk, pl, w, wk, T, W, s, c, L2, rfl, rfl, rfl, rfl, rfl, rfl, hc, hm, hv, hl, h8, ⟨hb0, hb1, hp0, hp1⟩, ht, hw, hz, h⟩ := h
  have hr := rowAt_len h8 hb0 hb1
  have hz : s.1.length + s.2.length ≤ 900000 := hz
  walk_at "w"
  all_goals walk_at "g1"
  all_goals first
    | (rw [jud_0 (R := rows) (lo := 10 + F + E) (hi := 10 + F + E + B) (b := bk) (a := pl) (w := w) (s := s) (by assumption)] at h; dsimp only at h; exact Wk.by_ (by walk_at "lic") (h _ hc))
    | (rw [jud_1 (R := rows) (lo := 10 + F + E) (hi := 10 + F + E + B) (b := bk) (a := pl) (w := w) (s := s) (by assumption) (by assumption) (by first | assumption | omega) (by assumption)] at h; dsimp only at h; exact Wk.by_ (by walk_at "lic") (h _ hc))
    | (rw [jud_2 (R := rows) (lo := 10 + F + E) (hi := 10 + F + E + B) (b := bk) (a := pl) (w := w) (s := s) (by assumption) (fun z => by first | exact absurd z.1 (by assumption) | exact absurd z.2.1 (by first | assumption | omega) | exact absurd (by assumption) z.2.2 | simp_all)] at h; dsimp only at h; exact Wk.by_ (by walk_at "lic") (h _ (by assumption)))
theorem ok_walk_file (T : Txt K mg) (G_walk_pointer : OkF P w K mg base 3 "walk_pointer" ["layout", "volume", "place", "wanted", "walked"] (sp_walk_pointer K)) (G_Layout_record_at : OkM P w K mg base 1 (He.ma K (He.ga K "Layout") "record_at") ["self", "number"] (sp_Layout_record_at K)) : OkF P w K mg base 4 "walk_file" ["layout", "volume", "f", "walked"] (sp_walk_file K) := by
  obtain ⟨fd, F⟩ := T.f_walk_file
  refine ⟨T.g_walk_file, fd, fn_ok2 F sc_walk_file (len4 rfl) (fun cdv A outer s H E hr => have hu := hr.units; ⟨_, ((lss_cons (ls_set 4 sc_walk_file.nd (lmethO T.cl_Layout T.me_Layout_record_at G_Layout_record_at (hr.mono (by decide)) (lv 0) (la_cons (lv 2) la_nil)))
      (lss_cons (ls_set 5 sc_walk_file.nd (lix (kx_ix K hu) (lix (kx_ix K hu) (lv 1) (lv 4) (fun _ _ => rfl)) lint (fun _ _ => rfl)))
      (lss_cons (ls_for PassesOwn.never rfl (li_range1 rfl T.n_range (la_cons lint la_nil)) (lg_name 6 sc_walk_file.nd) (lss_one (ls_expr (lcallO G_walk_pointer (hr.mono (by decide)) rfl (la_cons (lv 0) (la_cons (lv 1) (la_cons (ltup (la_cons (lv 4) (la_cons (lop (ko_add K) lint (lv 6)) la_nil))) (la_cons (lcmp lo_lt (lop lo_mul (lglobI rfl T.i_WIDE) (lv 6)) (lv 5) (nomark _)) (la_cons (lv 3) la_nil)))))))))
      (lss_one (ls_if (kt_truth K (lcallO G_walk_pointer (hr.mono (by decide)) rfl (la_cons (lv 0) (la_cons (lv 1) (la_cons (ltup (la_cons (lv 4) (la_cons lint la_nil))) (la_cons (lcmp lo_lt (lop lo_mul (lglobI rfl T.i_WIDE) lint) (lv 5) (nomark _)) (la_cons (lv 3) la_nil))))))) (lss_one (ls_for PassesOwn.never rfl (li_range1 rfl T.n_range (la_cons (lglobI rfl T.i_WIDE) la_nil)) (lg_name 6 sc_walk_file.nd) (lss_one (ls_expr (lcallO G_walk_pointer (hr.mono (by decide)) rfl (la_cons (lv 0) (la_cons (lv 1) (la_cons (ltup (la_cons (lix (kx_ix K hu) (lix (kx_ix K hu) (lv 1) (lv 4) (fun _ _ => rfl)) lint (fun _ _ => rfl)) (la_cons (lv 6) la_nil))) (la_cons (lcmp lo_lt (lop lo_mul (lglobI rfl T.i_WIDE) (lop (ko_add K) (lv 6) lint)) (lv 5) (nomark _)) (la_cons (lv 3) la_nil)))))))))) lss_nil)))))), fun vs L Q EL σ h hσ => ?_⟩), F.bindsN (fun _ _ _ _ _ _ us hl => match us, hl with | [_, _, _, _], _ => rfl), F.kp⟩
  obtain ⟨x0, x1, x2, x3, rfl, h⟩ := h
  have hσ : ([some x0, some x1, some x2, some x3, none, none, none] : St) = σ := hσ
  subst hσ
  clear hσ hu hr F
  clear G_walk_pointer G_Layout_record_at
  obtain ⟨q, dx, F, E, B, p, as, rows, f, wk, T, W, s, c, L2, rfl, rfl, rfl, rfl, rfl, hc, hb, hm, hv, hl, hn, h8, ⟨hf0, hf1⟩, hw, hz, h⟩ := h
  have hb' := hb
  unfold inB at hb'
  have hr := rowAt_len h8 (j := 10 + f) (by omega) (by omega)
  walk_at "w"
  refine' fr_1 (k0 := 6) (fun i L' => ∃ c, LdT c W (iterM (j3 rows (10 + F + E) (10 + F + E + B) f) i s).2 ∧ L' = [(T, HO.dK (kvT (iterM (j3 rows (10 + F + E) (10 + F + E + B) f) i s).1))] :: c :: L2) ?i0 ?is ?id
  case i0 => exact Wk.go ⟨c, hc, rfl⟩
  case is =>
    rintro i a0 L' hi ⟨c, hc, rfl⟩
    have hz1 := iterM_sz (j3_sz (R := rows) (lo := 10 + F + E) (hi := 10 + F + E + B) (f := f)) (s := s) i
    walk_at "sl"
    walk_at "w"
    walk_at "g1"
    refine' Wk.by_ ?l ⟨rfl, _, LdT.to ?h1 ?h2, ?h3⟩
    case h1 => assumption
    case h2 => (rw [iterM_succ]; rfl)
    case h3 => (rw [iterM_succ]; first | done | rfl)
    case l => exact LicS.lic (LicS.pull .hd (LicS.pull .hd (LicS.skip LicS.refl)))
  rintro a0 L' ⟨c, hc, rfl⟩
  have hz1 := iterM_sz (j3_sz (R := rows) (lo := 10 + F + E) (hi := 10 + F + E + B) (f := f)) (s := s) (Int.toNat 3)
  have hz2 := jm_sz (R := rows) (lo := 10 + F + E) (hi := 10 + F + E + B) (f := f) (s := s)
  walk_at "sl"
  walk_at "w"
  · rename_i P0 c8 hc8 hy
    have hy' : (jm rows (10 + F + E) (10 + F + E + B) f s).1 = true := hy
    have hlo : 10 + F + E ≤ (rowAt rows (10 + f)).getD 7 0 ∧ (rowAt rows (10 + f)).getD 7 0 < 10 + F + E + B := jud_t hy
    have hc9 : LdT c8 W (jm rows (10 + F + E) (10 + F + E + B) f s).2.2 := hc8
    refine' fr_1 (k0 := 6) (fun i L' => ∃ c, LdT c W (iterM (j8 rows (10 + F + E) (10 + F + E + B) f) i (jm rows (10 + F + E) (10 + F + E + B) f s).2).2 ∧ L' = [(T, HO.dK (kvT (iterM (j8 rows (10 + F + E) (10 + F + E + B) f) i (jm rows (10 + F + E) (10 + F + E + B) f s).2).1))] :: c :: L2) ?m0 ?ms ?md
    case m0 => exact Wk.by_ (LicS.lic (LicS.pull .hd (LicS.pull .hd (LicS.skip LicS.refl)))) ⟨c8, hc9, rfl⟩
    case ms =>
      rintro i b0 L' hi ⟨c, hc, rfl⟩
      have hz3 := iterM_sz (j8_sz (R := rows) (lo := 10 + F + E) (hi := 10 + F + E + B) (f := f)) (s := (jm rows (10 + F + E) (10 + F + E + B) f s).2) i
      walk_at "sl"
      walk_at "w"
      walk_at "g1"
      refine' Wk.by_ ?ll ⟨rfl, _, LdT.to ?hh1 ?hh2, ?hh3⟩
      case hh1 => assumption
      case hh2 => (rw [iterM_succ]; rfl)
      case hh3 => (rw [iterM_succ]; first | done | rfl)
      case ll => exact LicS.lic (LicS.pull .hd (LicS.pull .hd (LicS.skip LicS.refl)))
    rintro b0 L' ⟨c, hc, rfl⟩
    walk_at "sl"
    walk_at "w"
    walk_at "g1"
    have e : fileW rows (10 + F + E) (10 + F + E + B) f s = iterM (j8 rows (10 + F + E) (10 + F + E + B) f) (Int.toNat 8) (jm rows (10 + F + E) (10 + F + E + B) f s).2 := by unfold fileW; rw [if_pos hy']; rfl
    rw [e] at h
    exact Wk.go (h _ hc)
  · rename_i P0 c8 hc8 hy
    have hy' : ¬ (jm rows (10 + F + E) (10 + F + E + B) f s).1 = true := fun z => absurd (hy.symm.trans z) (by simp)
    walk_at "g1"
    have e : fileW rows (10 + F + E) (10 + F + E + B) f s = (jm rows (10 + F + E) (10 + F + E + B) f s).2 := by unfold fileW; rw [if_neg hy']
    rw [e] at h
    exact Wk.by_ (LicS.lic (LicS.pull .hd (LicS.pull .hd (LicS.skip LicS.refl)))) (h _ hc8)
theorem ok_walk_files (T : Txt K mg) (G_is_file : OkF P w K mg base 1 "is_file" ["layout", "volume", "f"] (sp_is_file K)) (G_walk_file : OkF P w K mg base 4 "walk_file" ["layout", "volume", "f", "walked"] (sp_walk_file K)) : OkF P w K mg base 5 "walk_files" ["layout", "volume"] (sp_walk_files K) := by
  obtain ⟨fd, F⟩ := T.f_walk_files
  refine ⟨T.g_walk_files, fd, fn_ok2 F sc_walk_files (len2 rfl) (fun cdv A outer s H E hr => have hu := hr.units; ⟨_, ((lss_cons (ls_set 2 sc_walk_files.nd (ltup (la_cons ldict0 (la_cons (llst la_nil) la_nil))))
      (lss_cons (ls_for PassesOwn.never rfl (li_range2 rfl T.n_range (la_cons lint (la_cons (kfld K (lv 0)) la_nil))) (lg_name 3 sc_walk_files.nd) (lss_one (ls_if (kt_truth K (lcallO G_is_file (hr.mono (by decide)) rfl (la_cons (lv 0) (la_cons (lv 1) (la_cons (lv 3) la_nil))))) (lss_one (ls_expr (lcallO G_walk_file (hr.mono (by decide)) rfl (la_cons (lv 0) (la_cons (lv 1) (la_cons (lv 3) (la_cons (lv 2) la_nil))))))) lss_nil)))
      (lss_one (ls_ret (lv 2)))))), fun vs L Q EL σ h hσ => ?_⟩), F.bindsN (fun _ _ _ _ _ _ us hl => match us, hl with | [_, _], _ => rfl), F.kp⟩
  obtain ⟨x0, x1, rfl, h⟩ := h
  have hσ : ([some x0, some x1, none, none] : St) = σ := hσ
  subst hσ
  clear hσ hu hr F
  clear G_is_file G_walk_file
  have t_cl_Layout := T.cl_Layout
  have t_na_Layout_files := T.na_Layout_files
  have t_na_Layout_slots := T.na_Layout_slots
  have t_na_Layout_data := T.na_Layout_data
  obtain ⟨q, dx, F, E, B, p, as, rows, rfl, rfl, hb, hm, hv, hl, hn, h8, h⟩ := h
  have hb' := hb
  unfold inB at hb'
  walk_at "w"
  rename_i T W wk
  refine' frn_1 (k0 := 3) (fun i L' => ∃ c, LdT c W (filesW rows (10 + F + E) (10 + F + E + B) i).2 ∧ L' = [(T, HO.dK (kvT (filesW rows (10 + F + E) (10 + F + E + B) i).1))] :: c :: [(wk, .tup [.ref T, .ref W])] :: L) ?i0 ?is ?id
  case i0 => exact Wk.by_ (LicS.lic (LicS.pull (.tl (.tl .hd)) (LicS.pull (.tl .hd) (LicS.pull .hd LicS.refl)))) ⟨_, LdT.nil, rfl⟩
  case is =>
    rintro i a0 L' hi ⟨c, hc, rfl⟩
    have hz := filesW_sz (R := rows) (lo := 10 + F + E) (hi := 10 + F + E + B) i
    walk_at "sl"
    walk_at "w"
    · rename_i hk c8 hc8
      have e : filesW rows (10 + F + E) (10 + F + E + B) (i + 1) = fileW rows (10 + F + E) (10 + F + E + B) (1 + (i : Int)) (filesW rows (10 + F + E) (10 + F + E + B) i) := by
        rw [show filesW rows (10 + F + E) (10 + F + E + B) (i + 1) = fstep rows (10 + F + E) (10 + F + E + B) i (filesW rows (10 + F + E) (10 + F + E + B) i) from iterM_succ]
        unfold fstep
        rw [if_pos hk.2.2]
      walk_at "g1"
      exact Wk.go ⟨rfl, c8, by rw [e]; exact hc8, by rw [e]⟩
    · rename_i hk
      have e : filesW rows (10 + F + E) (10 + F + E + B) (i + 1) = filesW rows (10 + F + E) (10 + F + E + B) i := by
        rw [show filesW rows (10 + F + E) (10 + F + E + B) (i + 1) = fstep rows (10 + F + E) (10 + F + E + B) i (filesW rows (10 + F + E) (10 + F + E + B) i) from iterM_succ]
        unfold fstep
        rw [if_neg (fun z => hk ⟨by omega, by omega, z⟩)]
      walk_at "g1"
      exact Wk.go ⟨rfl, c, by rw [e]; exact hc, by rw [e]⟩
  rintro a0 L' ⟨c, hc, rfl⟩
  walk_at "sl"
  walk_at "w"
  walk_at "g1"
  exact Wk.go (h _ _ _ _ hc)
theorem ok_wrong_map (T : Txt K mg) (G_map_row : OkF P w K mg base 2 "map_row" ["layout", "blocks"] (sp_map_row K)) (G_walk_files : OkF P w K mg base 5 "walk_files" ["layout", "volume"] (sp_walk_files K)) : OkF P w K mg base 6 "wrong_map" ["layout", "volume"] (sp_wrong_map K) := by
  obtain ⟨fd, F⟩ := T.f_wrong_map
  refine ⟨T.g_wrong_map, fd, fn_ok2 F sc_wrong_map (len2 rfl) (fun cdv A outer s H E hr => have hu := hr.units; ⟨_, ((lss_cons (ls_set 2 sc_wrong_map.nd (lcallO G_map_row (hr.mono (by decide)) rfl (la_cons (lv 0) (la_cons (lcallTy lk_listD (by rfl) T.n_list (by decide +kernel) (la_cons (lix (kx_ix K hu) (lcallO G_walk_files (hr.mono (by decide)) rfl (la_cons (lv 0) (la_cons (lv 1) la_nil))) lint (fun _ _ => rfl)) la_nil)) la_nil))))
      (lss_one (ls_ret (llc (vs := [3]) rfl sc_wrong_map.nd (li_range1 rfl T.n_range (la_cons (lglobI rfl T.i_WIDE) la_nil)) (blkOk_by (own := [("k", 3)]) (N := ["layout", "volume", "due", "k"]) (sc := defScope s_wrong_map) (by decide +kernel)) (fun _ _ _ _ _ => (lg_name 3 sc_wrong_map.nd)) (fun _ _ _ _ _ => (lts_one (lt_cmp (ko_ne K hu) (lix (kx_ix K hu) (lix (kx_ix K hu) (lv 1) (lglobI rfl T.i_MAP) (fun _ _ => rfl)) (lv 3) (fun _ _ => rfl)) (lix (kx_ix K hu) (lv 2) (lv 3) (fun _ _ => rfl)) (nomark _)))) (fun _ _ _ _ _ => (ltup (la_cons (lglobI rfl T.i_MAP) (la_cons (lv 3) (la_cons (lix (kx_ix K hu) (lv 2) (lv 3) (fun _ _ => rfl)) la_nil)))))))))), fun vs L Q EL σ h hσ => ?_⟩), F.bindsN (fun _ _ _ _ _ _ us hl => match us, hl with | [_, _], _ => rfl), F.kp⟩
  obtain ⟨x0, x1, rfl, h⟩ := h
  have hσ : ([some x0, some x1, none, none] : St) = σ := hσ
  subst hσ
  clear hσ hu hr F
  clear G_map_row G_walk_files
  obtain ⟨q, dx, F, E, B, p, as, rows, rfl, rfl, hb, hm, hv, hl, hn, h8, h⟩ := h
  have hb' := hb
  unfold inB at hb'
  walk_at "w"
  rename_i wk T W c8 hc8 bl D
  have hl8 := mapM_len (lo := 10 + F + E) (filesW rows (10 + F + E) (10 + F + E + B) (F - 1).toNat).1
  have hM : mapW F E B rows = accM (fun k : Nat => mpst rows (mapM (10 + F + E) (filesW rows (10 + F + E) (10 + F + E + B) (F - 1).toNat).1) k) 8 := rfl
  have hr2 := rowAt_len h8 (j := 2) (by omega) (by omega)
  generalize mapM (10 + F + E) (filesW rows (10 + F + E) (10 + F + E + B) (F - 1).toNat).1 = M at *
  refine' a_telR (fun i => (accM (fun k : Nat => mpst rows M k) i).map dT) rfl rfl ?hs ?hd
  case hs =>
    intro j acc C D2 hj hal ht
    have hz2 := accM_len (g := fun k : Nat => mpst rows M k) (fun p => mpst_len rows M p) j
    rw [List.length_map] at hal
    walk_at "w"
    · refine' s_lcnD ?y1 ht ?y2
      case y1 => walk_at "lics"
      case y2 => (rw [accM_succ, List.map_append]; unfold mpst; split <;> first | (exfalso; first | omega | exact absurd ‹_› ‹_›) | simp)
    · refine' s_lcyT ?y1 ?y2 ?y3 ht ?y4 ?y5 (r := [2, (j : Int), M.getD (j : Int).toNat 0])
      case y2 => walk_at "pull"
      case y1 => walk_at "iv"
      case y3 => walk_at "lics"
      case y4 => omega
      case y5 => (rw [accM_succ, List.map_append]; unfold mpst; split <;> first | (exfalso; first | omega | exact absurd ‹_› ‹_›) | simp)
  case hd =>
    intro D2 c2 hc2
    exact Wk.by_ (L' := c2 :: L) (by walk_at "lic") (Wk.go (h _ _ (LdT.to hc2 hM)))
theorem ok_is_folder (T : Txt K mg) : OkF P w K mg base 1 "is_folder" ["layout", "volume", "f"] (sp_is_folder K) := by
  obtain ⟨fd, F⟩ := T.f_is_folder
  refine ⟨T.g_is_folder, fd, fn_ok2 F sc_is_folder (len3 rfl) (fun cdv A outer s H E hr => have hu := hr.units; ⟨_, ((lss_one (ls_ret (lor (lcmp (ko_eq K hu) (lv 2) lint (nomark _)) (lone (land (lchain lo_lt lo_lt lint (lv 2) (kfld K (lv 0))) (lone (lcmp (ko_eq K hu) (lix (kx_ix K hu) (lix (kx_ix K hu) (lv 1) (lop (ko_add K) (lglobI rfl T.i_RECORDS) (lv 2)) (fun _ _ => rfl)) lint (fun _ _ => rfl)) lint (nomark _))))))))), fun vs L Q EL σ h hσ => ?_⟩), F.bindsN (fun _ _ _ _ _ _ us hl => match us, hl with | [_, _, _], _ => rfl), F.kp⟩
  obtain ⟨x0, x1, x2, rfl, h⟩ := h
  have hσ : ([some x0, some x1, some x2] : St) = σ := hσ
  subst hσ
  clear hσ hu hr F
  have t_cl_Layout := T.cl_Layout
  have t_na_Layout_files := T.na_Layout_files
  have t_na_Layout_slots := T.na_Layout_slots
  have t_na_Layout_data := T.na_Layout_data
  obtain ⟨q, dx, F, E, B, p, as, rows, f, rfl, rfl, rfl, hm, hv, hl, hn, h8, h⟩ := h
  unfold kindM at h
  walk_at "w"
  all_goals walk_at "go"
  all_goals refine q_bl h ?_
  all_goals first | exact dec_t (by omega) | exact dec_f (by omega) | exact dec_c ⟨fun z => z.elim (fun e => absurd e ‹_›) fun z => z.2.2, fun z => .inr ⟨by omega, by omega, z⟩⟩
theorem ok_in_use (T : Txt K mg) (G_is_folder : OkF P w K mg base 1 "is_folder" ["layout", "volume", "f"] (sp_is_folder K)) (G_is_file : OkF P w K mg base 1 "is_file" ["layout", "volume", "f"] (sp_is_file K)) : OkF P w K mg base 2 "in_use" ["layout", "volume"] (sp_in_use K) := by
  obtain ⟨fd, F⟩ := T.f_in_use
  refine ⟨T.g_in_use, fd, fn_ok2 F sc_in_use (len2 rfl) (fun cdv A outer s H E hr => have hu := hr.units; ⟨_, ((lss_one (ls_ret (llc (vs := [2]) rfl sc_in_use.nd (li_range2 rfl T.n_range (la_cons lint (la_cons (kfld K (lv 0)) la_nil))) (blkOk_by (own := [("f", 2)]) (N := ["layout", "volume", "f"]) (sc := defScope s_in_use) (by decide +kernel)) (fun _ _ _ _ _ => (lg_name 2 sc_in_use.nd)) (fun _ _ _ _ _ => (lts_one (LW.pt (lw_or (kt_truth K (lcallO G_is_file (hr.mono (by decide)) rfl (la_cons (lv 0) (la_cons (lv 1) (la_cons (lv 2) la_nil))))) (lw_or1 (kt_truth K (lcallO G_is_folder (hr.mono (by decide)) rfl (la_cons (lv 0) (la_cons (lv 1) (la_cons (lv 2) la_nil)))))))))) (fun _ _ _ _ _ => (lv 2)))))), fun vs L Q EL σ h hσ => ?_⟩), F.bindsN (fun _ _ _ _ _ _ us hl => match us, hl with | [_, _], _ => rfl), F.kp⟩
  obtain ⟨x0, x1, rfl, h⟩ := h
  have hσ : ([some x0, some x1, none] : St) = σ := hσ
  subst hσ
  clear hσ hu hr F
  clear G_is_folder G_is_file
  have t_cl_Layout := T.cl_Layout
  have t_na_Layout_files := T.na_Layout_files
  have t_na_Layout_slots := T.na_Layout_slots
  have t_na_Layout_data := T.na_Layout_data
  obtain ⟨q, dx, F, E, B, p, as, rows, rfl, rfl, hb, hm, hv, hl, hn, h8, h⟩ := h
  have hb' := hb
  unfold inB at hb'
  walk_at "w"
  refine' a_filtN (useB F rows) rfl ?h1 ?h2 ?h3
  case h1 => omega
  case h2 =>
    intro i acc Dl hi hz
    walk_at "w"
    all_goals first
      | exact s_lcyB (by unfold useB; exact dec_t (.inl (by assumption))) hz (by walk_at "lic") rfl
      | exact s_lcyB (by unfold useB; exact dec_t (.inr (by assumption))) hz (by walk_at "lic") rfl
      | exact s_lcnB (by unfold useB; exact dec_f fun z => z.elim (by assumption) (by assumption)) (by walk_at "lic")
  intro Dl
  walk_at "g1"
  exact Wk.go (h _)
theorem ok_is_right (T : Txt K mg) (G_is_folder : OkF P w K mg base 1 "is_folder" ["layout", "volume", "f"] (sp_is_folder K)) (G_is_file : OkF P w K mg base 1 "is_file" ["layout", "volume", "f"] (sp_is_file K)) : OkF P w K mg base 2 "is_right" ["layout", "volume", "told", "right"] (sp_is_right K) := by
  obtain ⟨fd, F⟩ := T.f_is_right
  refine ⟨T.g_is_right, fd, fn_ok2 F sc_is_right (len4 rfl) (fun cdv A outer s H E hr => have hu := hr.units; ⟨_, ((lss_cons (ls_asg (lv 2) (kg_tup K (n := 3) rfl (lgs_cons (lg_name 4 sc_is_right.nd) (lgs_cons (lg_name 5 sc_is_right.nd) (lgs_cons (lg_name 6 sc_is_right.nd) lgs_nil)))))
      (lss_cons (ls_if (LW.pt (lw_or (lt_cmp lo_lt (lv 5) lint (nomark _)) (lw_or (lt_not (kt_truth K (lcallO G_is_folder (hr.mono (by decide)) rfl (la_cons (lv 0) (la_cons (lv 1) (la_cons (lv 4) la_nil)))))) (lw_or1 (lt_cmp (ko_eq K hu) (lv 6) lint (nomark _)))))) (lss_one (ls_ret lbl)) lss_nil)
      (lss_cons (ls_join (ls_if (LW.pt (lw_and (lt_not (kt_truth K (lcallO G_is_file (hr.mono (by decide)) rfl (la_cons (lv 0) (la_cons (lv 1) (la_cons (lv 6) la_nil)))))) (lw_and1 (lt_not (kt_truth K (lcallO G_is_folder (hr.mono (by decide)) rfl (la_cons (lv 0) (la_cons (lv 1) (la_cons (lv 6) la_nil))))))))) (lss_one (ls_ret lbl)) lss_nil))
      (lss_cons (ls_for PassesOwn.never rfl (ki_list K (lv 3)) (kg_tup K (n := 4) rfl (lgs_cons (lg_name 7 sc_is_right.nd) (lgs_cons (lg_name 8 sc_is_right.nd) (lgs_cons (lg_name 9 sc_is_right.nd) (lgs_cons (lg_name 10 sc_is_right.nd) lgs_nil))))) (lss_one (ls_if (LW.pt (lw_or (LW.pt (lw_and (lt_cmp (ko_eq K hu) (lv 8) (lv 4) (nomark _)) (lw_and1 (lt_cmp (ko_eq K hu) (lv 9) (lv 5) (nomark _))))) (lw_or1 (LW.pt (lw_and (lt_cmp (ko_eq K hu) (lv 10) (lv 6) (nomark _)) (lw_and1 (kt_truth K (lcallO G_is_folder (hr.mono (by decide)) rfl (la_cons (lv 0) (la_cons (lv 1) (la_cons (lv 6) la_nil))))))))))) (lss_one (ls_ret lbl)) lss_nil)))
      (lss_one (ls_ret lbl))))))), fun vs L Q EL σ h hσ => ?_⟩), F.bindsN (fun _ _ _ _ _ _ us hl => match us, hl with | [_, _, _, _], _ => rfl), F.kp⟩
  obtain ⟨x0, x1, x2, x3, rfl, h⟩ := h
  have hσ : ([some x0, some x1, some x2, some x3, none, none, none, none, none, none, none] : St) = σ := hσ
  subst hσ
  clear hσ hu hr F
  clear G_is_folder G_is_file
  obtain ⟨q, dx, F, E, B, p, as, rows, t, fo, na, fi, r, c, rs, rfl, rfl, rfl, rfl, hm, hv, hl, hn, h8, ht, hc, hcm, h4, h⟩ := h
  walk_at "w"
  · walk_at "g1"
    refine Wk.go (q_bl h (dec_f fun z => ?_))
    exact z.1 (by assumption)
  · walk_at "g1"
    refine Wk.go (q_bl h (dec_f fun z => ?_))
    exact absurd z.2.2.1 (by simp [*])
  · rename_i hna hfo hfi
    refine' s_joinU (fun L' => L' = L ∧ (isFileM F rows fi ∨ isFoldM F rows fi)) ?j1 ?j2
    case j1 =>
      walk_at "w"
      all_goals first
        | exact Wk.go ⟨rfl, rfl, .inl (by assumption)⟩
        | exact Wk.go ⟨rfl, rfl, .inr (by assumption)⟩
        | (walk_at "g1"; exact Wk.go (q_bl h (dec_f fun z => z.2.2.2.1.elim (by assumption) (by assumption))))
    rintro L' ⟨rfl, hk⟩
    walk_at "w"
    rename_i xs hxs hall
    refine' fq_4 (k0 := 7) (k1 := 8) (k2 := 9) (k3 := 10) (fun i L'' => L'' = L' ∧ ∀ r ∈ rs.take i, ¬ clash F rows fo na fi r) hall ?i0 ?iG ?is ?id
    case i0 => exact Wk.go ⟨rfl, by simp⟩
    case iG => rintro i L'' ⟨rfl, _⟩; exact IsL.at_ (At.mem hcm hxs)
    case is =>
      rintro i rw_ u a0 a1 a2 a3 L'' hi m1 ⟨rfl, hno⟩
      obtain ⟨s0, s1, s2, s3, rfl⟩ := list4 (h4 _ (List.mem_of_getElem? hi))
      have ht1 : ∀ {L : Lg}, c ∈ L → At L u (.tup [.int s0, .int s1, .int s2, .int s3]) := fun hm => At.mem hm m1
      have hu := ht1 hcm
      walk_at "sl"
      walk_at "w"
      all_goals walk_at "g1"
      all_goals first
        | exact Wk.go (q_bl h (dec_f fun z => z.2.2.2.2 _ (List.mem_of_getElem? hi) (.inl ⟨by assumption, by assumption⟩)))
        | exact Wk.go (q_bl h (dec_f fun z => z.2.2.2.2 _ (List.mem_of_getElem? hi) (.inr ⟨by assumption, by assumption⟩)))
        | exact Wk.go ⟨rfl, rfl, fun r hr => by
            rw [List.take_succ, hi] at hr
            rcases List.mem_append.mp hr with h' | h'
            · exact hno r h'
            · rw [Option.toList_some, List.mem_singleton] at h'
              subst h'
              rintro (⟨c1, c2⟩ | ⟨c1, c2⟩)
              · first | exact absurd c1 (by assumption) | exact absurd c2 (by assumption)
              · first | exact absurd c1 (by assumption) | exact absurd c2 (by assumption)⟩
    rintro a0 a1 a2 a3 L'' ⟨rfl, hno⟩
    rw [List.take_length] at hno
    walk_at "sl"
    walk_at "w"
    walk_at "g1"
    exact Wk.go (q_bl h (dec_t ⟨hna, hfo, hfi, hk, hno⟩))
  · walk_at "g1"
    refine Wk.go (q_bl h (dec_f fun z => ?_))
    exact absurd z.2.1 (by assumption)
theorem ok_Layout_names_at (T : Txt K mg) {f : Addr} (FF : ∃ fd, FunD K "names_at" "Layout.names_at" (defArgs s_Layout_names_at) (defBody s_Layout_names_at) (defScope s_Layout_names_at) ([] : List V) [] f fd) : OkM P w K mg base 1 f ["self", "number"] (sp_Layout_names_at K) := by
  obtain ⟨fd, F⟩ := FF
  refine ⟨fd, fn_ok2 F sc_Layout_names_at (len2 rfl) (fun cdv A outer s H E hr => have hu := hr.units; ⟨_, ((lss_one (ls_ret (lop (ko_add K) (lop (ko_add K) (lglobI rfl T.i_RECORDS) (kfld K (lv 0))) (lv 1))))), fun vs L Q EL σ h hσ => ?_⟩), F.bindsN (fun _ _ _ _ _ _ us hl => match us, hl with | [_, _], _ => rfl), F.kp⟩
  obtain ⟨x0, x1, rfl, h⟩ := h
  have hσ : ([some x0, some x1] : St) = σ := hσ
  subst hσ
  clear hσ hu hr F
  have t_cl_Layout := T.cl_Layout
  have t_na_Layout_files := T.na_Layout_files
  have t_na_Layout_slots := T.na_Layout_slots
  have t_na_Layout_data := T.na_Layout_data
  obtain ⟨p, dx, F, E, B, m, rfl, rfl, hm, h⟩ := h
  walk_at "w"
  exact Wk.go h
theorem ok_slot_at (T : Txt K mg) (G_Layout_names_at : OkM P w K mg base 1 (He.ma K (He.ga K "Layout") "names_at") ["self", "number"] (sp_Layout_names_at K)) : OkF P w K mg base 2 "slot_at" ["layout", "s"] (sp_slot_at K) := by
  obtain ⟨fd, F⟩ := T.f_slot_at
  refine ⟨T.g_slot_at, fd, fn_ok2 F sc_slot_at (len2 rfl) (fun cdv A outer s H E hr => have hu := hr.units; ⟨_, ((lss_cons (ls_asg (lcallB lk_divmod (by rfl) T.n_divmod (by decide +kernel) (la_cons (lv 1) (la_cons lint la_nil))) (kg_tup K (n := 2) rfl (lgs_cons (lg_name 2 sc_slot_at.nd) (lgs_cons (lg_name 3 sc_slot_at.nd) lgs_nil))))
      (lss_one (ls_ret (ltup (la_cons (lmethO T.cl_Layout T.me_Layout_names_at G_Layout_names_at (hr.mono (by decide)) (lv 0) (la_cons (lv 2) la_nil)) (la_cons (lop lo_mul (lv 3) (lglobI rfl T.i_WIDTH)) la_nil))))))), fun vs L Q EL σ h hσ => ?_⟩), F.bindsN (fun _ _ _ _ _ _ us hl => match us, hl with | [_, _], _ => rfl), F.kp⟩
  obtain ⟨x0, x1, rfl, h⟩ := h
  have hσ : ([some x0, some x1, none, none] : St) = σ := hσ
  subst hσ
  clear hσ hu hr F
  clear G_Layout_names_at
  obtain ⟨p, dx, F, E, B, s, rfl, rfl, hm, h⟩ := h
  walk_at "w"
  exact Wk.by_ (by walk_at "lic") (h _)
theorem ok_slot (T : Txt K mg) (G_slot_at : OkF P w K mg base 2 "slot_at" ["layout", "s"] (sp_slot_at K)) : OkF P w K mg base 3 "slot" ["layout", "volume", "s"] (sp_slot K) := by
  obtain ⟨fd, F⟩ := T.f_slot
  refine ⟨T.g_slot, fd, fn_ok2 F sc_slot (len3 rfl) (fun cdv A outer s H E hr => have hu := hr.units; ⟨_, ((lss_cons (ls_asg (lcallO G_slot_at (hr.mono (by decide)) rfl (la_cons (lv 0) (la_cons (lv 2) la_nil))) (kg_tup K (n := 2) rfl (lgs_cons (lg_name 3 sc_slot.nd) (lgs_cons (lg_name 4 sc_slot.nd) lgs_nil))))
      (lss_one (ls_ret (lcallTy (kk_tuple K) (by rfl) T.n_tuple (by decide +kernel) (la_cons (lslice (ksl_ok K) (lix (kx_ix K hu) (lv 1) (lv 3) (fun _ _ => rfl)) (lo_some (lv 4)) (lo_some (lop (ko_add K) (lv 4) (lglobI rfl T.i_WIDTH)))) la_nil)))))), fun vs L Q EL σ h hσ => ?_⟩), F.bindsN (fun _ _ _ _ _ _ us hl => match us, hl with | [_, _, _], _ => rfl), F.kp⟩
  obtain ⟨x0, x1, x2, rfl, h⟩ := h
  have hσ : ([some x0, some x1, some x2, none, none] : St) = σ := hσ
  subst hσ
  clear hσ hu hr F
  clear G_slot_at
  obtain ⟨p, dx, F, E, B, s, q, bs, rows, rfl, rfl, rfl, hm, hv, hl, h0, h1, h⟩ := h
  walk_at "w"
  exact Wk.by_ (by walk_at "lic") (h _)
theorem ok_right_slots (T : Txt K mg) (G_is_right : OkF P w K mg base 2 "is_right" ["layout", "volume", "told", "right"] (sp_is_right K)) (G_slot : OkF P w K mg base 3 "slot" ["layout", "volume", "s"] (sp_slot K)) : OkF P w K mg base 4 "right_slots" ["layout", "volume"] (sp_right_slots K) := by
  obtain ⟨fd, F⟩ := T.f_right_slots
  refine ⟨T.g_right_slots, fd, fn_ok2 F sc_right_slots (len2 rfl) (fun cdv A outer s H E hr => have hu := hr.units; ⟨_, ((lss_cons (ls_set 2 sc_right_slots.nd (llst la_nil))
      (lss_cons (ls_for PassesOwn.never rfl (li_range1 rfl T.n_range (la_cons (lop lo_mul lint (kfld K (lv 0))) la_nil)) (lg_name 3 sc_right_slots.nd) (lss_cons (ls_set 4 sc_right_slots.nd (lcallO G_slot (hr.mono (by decide)) rfl (la_cons (lv 0) (la_cons (lv 1) (la_cons (lv 3) la_nil)))))
      (lss_one (ls_if (LW.pt (lw_and (lt_cmp (ko_eq K hu) (lix (kx_ix K hu) (lv 4) lint (fun _ _ => rfl)) lint (nomark _)) (lw_and1 (kt_truth K (lcallO G_is_right (hr.mono (by decide)) rfl (la_cons (lv 0) (la_cons (lv 1) (la_cons (lslice (ksl_ok K) (lv 4) (lo_some lint) lo_none) (la_cons (lv 2) la_nil))))))))) (lss_one (ls_expr (kbm K PySem.F.plainAttrs_list PySem.F.slot_list_append PySem.F.type_list_append lm_append (lv 2) (la_cons (lop (ko_add K) (ltup (la_cons (lv 3) la_nil)) (lslice (ksl_ok K) (lv 4) (lo_some lint) lo_none)) la_nil)))) lss_nil))))
      (lss_one (ls_ret (lv 2)))))), fun vs L Q EL σ h hσ => ?_⟩), F.bindsN (fun _ _ _ _ _ _ us hl => match us, hl with | [_, _], _ => rfl), F.kp⟩
  obtain ⟨x0, x1, rfl, h⟩ := h
  have hσ : ([some x0, some x1, none, none, none] : St) = σ := hσ
  subst hσ
  clear hσ hu hr F
  clear G_is_right G_slot
  have t_cl_Layout := T.cl_Layout
  have t_na_Layout_files := T.na_Layout_files
  have t_na_Layout_slots := T.na_Layout_slots
  have t_na_Layout_data := T.na_Layout_data
  obtain ⟨q, dx, F, E, B, p, as, rows, rfl, rfl, hb, hm, hv, hl, hn, h8, h⟩ := h
  have hb' := hb
  unfold inB at hb'
  walk_at "w"
  rename_i D
  refine' fr_2 (k0 := 3) (k1 := 4) (fun i L' => ∃ c, LdT c D (rightsM F rows i) ∧ L' = c :: L) ?i0 ?is ?id
  case i0 => exact Wk.go ⟨_, LdT.nil, rfl⟩
  case is =>
    rintro i a0 a1 L' hi ⟨c, hc, rfl⟩
    have hz := rightsM_len (F := F) (R := rows) i
    have e := rightsM_succ (F := F) (R := rows) (n := i)
    unfold rstep at e
    walk_at "sl"
    walk_at "w"
    all_goals walk_at "g1"
    · rename_i hk0 _ hk1 _ _ _ c9 hc9
      rw [if_pos ⟨hk0, hk1⟩] at e
      exact Wk.by_ (L' := c9 :: L) (by walk_at "lic") ⟨rfl, c9, LdT.to hc9 e, rfl⟩
    · rw [if_neg (fun z => absurd z.2 (by assumption))] at e
      exact Wk.by_ (L' := c :: L) (by walk_at "lic") ⟨rfl, c, LdT.to hc e, rfl⟩
    · rw [if_neg (fun z => absurd z.1 (by assumption))] at e
      exact Wk.by_ (L' := c :: L) (by walk_at "lic") ⟨rfl, c, LdT.to hc e, rfl⟩
  rintro a0 a1 L' ⟨c, hc, rfl⟩
  walk_at "sl"
  walk_at "w"
  walk_at "g1"
  exact Wk.go (h _ _ hc)
theorem ok_named (T : Txt K mg) (G_right_slots : OkF P w K mg base 4 "right_slots" ["layout", "volume"] (sp_right_slots K)) : OkF P w K mg base 5 "named" ["layout", "volume"] (sp_named K) := by
  obtain ⟨fd, F⟩ := T.f_named
  refine ⟨T.g_named, fd, fn_ok2 F sc_named (len2 rfl) (fun cdv A outer s H E hr => have hu := hr.units; ⟨_, ((lss_cons (ls_set 2 sc_named.nd ldict0)
      (lss_cons (ls_for PassesOwn.never rfl (ki_list K (lcallO G_right_slots (hr.mono (by decide)) rfl (la_cons (lv 0) (la_cons (lv 1) la_nil)))) (kg_tup K (n := 4) rfl (lgs_cons (lg_name 3 sc_named.nd) (lgs_cons (lg_name 4 sc_named.nd) (lgs_cons (lg_name 5 sc_named.nd) (lgs_cons (lg_name 6 sc_named.nd) lgs_nil))))) (lss_one (ls_asg (lop (ko_add K) (ldget2 hu (lv 2) (lv 6) lint) lint) (lg_sub (lv 2) (lv 6) (lset_ok hu)))))
      (lss_one (ls_ret (lv 2)))))), fun vs L Q EL σ h hσ => ?_⟩), F.bindsN (fun _ _ _ _ _ _ us hl => match us, hl with | [_, _], _ => rfl), F.kp⟩
  obtain ⟨x0, x1, rfl, h⟩ := h
  have hσ : ([some x0, some x1, none, none, none, none, none] : St) = σ := hσ
  subst hσ
  clear hσ hu hr F
  clear G_right_slots
  obtain ⟨q, dx, F, E, B, p, as, rows, rfl, rfl, hb, hm, hv, hl, hn, h8, h⟩ := h
  have hb' := hb
  unfold inB at hb'
  walk_at "w"
  rename_i D RS c8 hc8 xs hxs hall
  have hz8 := rightsM_len (F := F) (R := rows) (2 * E).toNat
  refine' fq_4 (k0 := 3) (k1 := 4) (k2 := 5) (k3 := 6) (fun i L' => ∃ kvs, CntD kvs ((rightsM F rows (2 * E).toNat).take i) ∧ L' = [(D, HO.dK kvs)] :: c8 :: L) hall ?i0 ?iG ?is ?id
  case i0 => exact Wk.by_ (L' := [(D, HO.dK [])] :: c8 :: L) (by walk_at "lic") ⟨[], CntD.nil, rfl⟩
  case iG => rintro i L' ⟨kvs, _, rfl⟩; exact IsL.at_ (At.tl (At.hd hxs))
  case is =>
    rintro i r t a0 a1 a2 a3 L' hi m ⟨kvs, hk, rfl⟩
    obtain ⟨n0, n1, n2, n3, rfl⟩ := list4 (rightsM_4 _ r (List.mem_of_getElem? hi))
    have hu : ∀ {L : Lg}, c8 ∈ L → At L t (.tup [.int n0, .int n1, .int n2, .int n3]) := fun hm => At.mem hm m
    have hu0 : At ([(D, HO.dK kvs)] :: c8 :: L) t (.tup [.int n0, .int n1, .int n2, .int n3]) := hu (by simp)
    have hkl : kvs.length < 1000000 := by
      have h1 := hk.2
      rw [List.length_take] at h1
      omega
    walk_at "sl"
    walk_at "w"
    refine s_set_d (kvs := kvs) (by walk_at "wr") hkl ?_
    walk_at "w"
    walk_at "g1"
    refine Wk.go ⟨rfl, _, ?_, rfl⟩
    rw [List.take_succ, hi]
    exact CntD.snoc (r := [n0, n1, n2, n3]) hk
  rintro a0 a1 a2 a3 L' ⟨kvs, hk, rfl⟩
  rw [List.take_length] at hk
  walk_at "sl"
  walk_at "w"
  walk_at "g1"
  exact Wk.by_ (L' := [(D, HO.dK kvs)] :: L) (by walk_at "lic") (h _ _ hk)
theorem ok_wrong_counts (T : Txt K mg) (G_in_use : OkF P w K mg base 2 "in_use" ["layout", "volume"] (sp_in_use K)) (G_named : OkF P w K mg base 5 "named" ["layout", "volume"] (sp_named K)) : OkF P w K mg base 6 "wrong_counts" ["layout", "volume"] (sp_wrong_counts K) := by
  obtain ⟨fd, F⟩ := T.f_wrong_counts
  refine ⟨T.g_wrong_counts, fd, fn_ok2 F sc_wrong_counts (len2 rfl) (fun cdv A outer s H E hr => have hu := hr.units; ⟨_, ((lss_cons (ls_set 2 sc_wrong_counts.nd (lcallO G_named (hr.mono (by decide)) rfl (la_cons (lv 0) (la_cons (lv 1) la_nil))))
      (lss_cons (ls_set 3 sc_wrong_counts.nd (llst la_nil))
      (lss_cons (ls_for PassesOwn.never rfl (ki_list K (lcallO G_in_use (hr.mono (by decide)) rfl (la_cons (lv 0) (la_cons (lv 1) la_nil)))) (lg_name 4 sc_wrong_counts.nd) (lss_one (ls_if (lt_cmp (ko_ne K hu) (lix (kx_ix K hu) (lix (kx_ix K hu) (lv 1) (lop (ko_add K) (lglobI rfl T.i_RECORDS) (lv 4)) (fun _ _ => rfl)) lint (fun _ _ => rfl)) (ldget2 hu (lv 2) (lv 4) lint) (nomark _)) (lss_one (ls_expr (kbm K PySem.F.plainAttrs_list PySem.F.slot_list_append PySem.F.type_list_append lm_append (lv 3) (la_cons (ltup (la_cons (lop (ko_add K) (lglobI rfl T.i_RECORDS) (lv 4)) (la_cons lint (la_cons (ldget2 hu (lv 2) (lv 4) lint) la_nil)))) la_nil)))) lss_nil)))
      (lss_one (ls_ret (lv 3))))))), fun vs L Q EL σ h hσ => ?_⟩), F.bindsN (fun _ _ _ _ _ _ us hl => match us, hl with | [_, _], _ => rfl), F.kp⟩
  obtain ⟨x0, x1, rfl, h⟩ := h
  have hσ : ([some x0, some x1, none, none, none] : St) = σ := hσ
  subst hσ
  clear hσ hu hr F
  clear G_in_use G_named
  obtain ⟨q, dx, F, E, B, p, as, rows, rfl, rfl, hb, hm, hv, hl, hn, h8, h⟩ := h
  have hb' := hb
  unfold inB at hb'
  walk_at "w"
  rename_i M kvs hk FO U
  have hul := useM_len (F := F) (R := rows)
  refine' fi_1 (k0 := 4) (fun i L' => ∃ c, LdT c FO (accL (cst1 F E rows) ((useM F rows).take i)) ∧ L' = c :: [(U, HO.lst ((useM F rows).map V.int))] :: [(M, HO.dK kvs)] :: L) IntsV.map ?i0 ?iG ?is ?id
  case i0 => exact Wk.by_ (L' := [(FO, HO.lst [])] :: [(U, HO.lst ((useM F rows).map V.int))] :: [(M, HO.dK kvs)] :: L) (by walk_at "lic") ⟨_, LdT.nil, rfl⟩
  case iG => rintro i L' ⟨c, _, rfl⟩; exact IsL.at_ (At.tl At.hd1)
  case is =>
    rintro i x a0 L' hi ⟨c, hc, rfl⟩
    have hx := useM_in (List.mem_of_getElem? hi)
    have hzz : (accL (cst1 F E rows) ((useM F rows).take i)).length < 1000000 := by
      have h1 := accL_len (fun f => cst1_len F E rows f) ((useM F rows).take i)
      rw [List.length_take] at h1
      omega
    have e := accL_take (cst1 F E rows) hi
    have hr := rowAt_len h8 (j := 10 + x) (by omega) (by omega)
    unfold cst1 manyM at e
    walk_at "sl"
    walk_at "w"
    · rename_i he
      rw [if_pos he, List.append_nil] at e
      walk_at "g1"
      exact Wk.by_ (L' := c :: [(U, HO.lst ((useM F rows).map V.int))] :: [(M, HO.dK kvs)] :: L) (by walk_at "lic") ⟨rfl, c, LdT.to hc e, rfl⟩
    · rename_i hne _ c9 hc9
      rw [if_neg hne] at e
      walk_at "g1"
      exact Wk.by_ (L' := c9 :: [(U, HO.lst ((useM F rows).map V.int))] :: [(M, HO.dK kvs)] :: L) (by walk_at "lic") ⟨rfl, c9, LdT.to hc9 e, rfl⟩
  rintro a0 L' ⟨c, hc, rfl⟩
  rw [List.take_length] at hc
  walk_at "sl"
  walk_at "w"
  walk_at "g1"
  exact Wk.by_ (L' := c :: L) (by walk_at "lic") (h _ _ hc)
theorem ok_wrong_found (T : Txt K mg) (G_in_use : OkF P w K mg base 2 "in_use" ["layout", "volume"] (sp_in_use K)) (G_named : OkF P w K mg base 5 "named" ["layout", "volume"] (sp_named K)) : OkF P w K mg base 6 "wrong_found" ["layout", "volume"] (sp_wrong_found K) := by
  obtain ⟨fd, F⟩ := T.f_wrong_found
  refine ⟨T.g_wrong_found, fd, fn_ok2 F sc_wrong_found (len2 rfl) (fun cdv A outer s H E hr => have hu := hr.units; ⟨_, ((lss_cons (ls_set 2 sc_wrong_found.nd (lcallO G_named (hr.mono (by decide)) rfl (la_cons (lv 0) (la_cons (lv 1) la_nil))))
      (lss_cons (ls_set 3 sc_wrong_found.nd (llst la_nil))
      (lss_cons (ls_for PassesOwn.never rfl (ki_list K (lcallO G_in_use (hr.mono (by decide)) rfl (la_cons (lv 0) (la_cons (lv 1) la_nil)))) (lg_name 4 sc_wrong_found.nd) (lss_cons (ls_set 5 sc_wrong_found.nd (lcallTy lk_int (by rfl) T.n_int (by decide +kernel) (la_cons (lcmp (ko_notIn K hu) (lv 4) (lv 2) (by rfl)) la_nil)))
      (lss_one (ls_if (lt_cmp (ko_ne K hu) (lix (kx_ix K hu) (lix (kx_ix K hu) (lv 1) (lop (ko_add K) (lglobI rfl T.i_RECORDS) (lv 4)) (fun _ _ => rfl)) lint (fun _ _ => rfl)) (lv 5) (nomark _)) (lss_one (ls_expr (kbm K PySem.F.plainAttrs_list PySem.F.slot_list_append PySem.F.type_list_append lm_append (lv 3) (la_cons (ltup (la_cons (lop (ko_add K) (lglobI rfl T.i_RECORDS) (lv 4)) (la_cons lint (la_cons (lv 5) la_nil)))) la_nil)))) lss_nil))))
      (lss_one (ls_ret (lv 3))))))), fun vs L Q EL σ h hσ => ?_⟩), F.bindsN (fun _ _ _ _ _ _ us hl => match us, hl with | [_, _], _ => rfl), F.kp⟩
  obtain ⟨x0, x1, rfl, h⟩ := h
  have hσ : ([some x0, some x1, none, none, none, none] : St) = σ := hσ
  subst hσ
  clear hσ hu hr F
  clear G_in_use G_named
  obtain ⟨q, dx, F, E, B, p, as, rows, rfl, rfl, hb, hm, hv, hl, hn, h8, h⟩ := h
  have hb' := hb
  unfold inB at hb'
  walk_at "w"
  rename_i M kvs hk FO U
  have hul := useM_len (F := F) (R := rows)
  refine' fi_2 (k0 := 4) (k1 := 5) (fun i L' => ∃ c, LdT c FO (accL (fst1 F E rows) ((useM F rows).take i)) ∧ L' = c :: [(U, HO.lst ((useM F rows).map V.int))] :: [(M, HO.dK kvs)] :: L) IntsV.map ?i0 ?iG ?is ?id
  case i0 => exact Wk.by_ (L' := [(FO, HO.lst [])] :: [(U, HO.lst ((useM F rows).map V.int))] :: [(M, HO.dK kvs)] :: L) (by walk_at "lic") ⟨_, LdT.nil, rfl⟩
  case iG => rintro i L' ⟨c, _, rfl⟩; exact IsL.at_ (At.tl At.hd1)
  case is =>
    rintro i x a0 a1 L' hi ⟨c, hc, rfl⟩
    have hx := useM_in (List.mem_of_getElem? hi)
    have hzz : (accL (fst1 F E rows) ((useM F rows).take i)).length < 1000000 := by
      have h1 := accL_len (fun f => fst1_len F E rows f) ((useM F rows).take i)
      rw [List.length_take] at h1
      omega
    have e := accL_take (fst1 F E rows) hi
    have hr := rowAt_len h8 (j := 10 + x) (by omega) (by omega)
    unfold fst1 manyM at e
    walk_at "sl"
    walk_at "w"
    · rename_i he
      rw [if_pos he, List.append_nil] at e
      walk_at "g1"
      exact Wk.by_ (L' := c :: [(U, HO.lst ((useM F rows).map V.int))] :: [(M, HO.dK kvs)] :: L) (by walk_at "lic") ⟨rfl, c, LdT.to hc e, rfl⟩
    · rename_i hne _ c9 hc9
      rw [if_neg hne] at e
      walk_at "g1"
      exact Wk.by_ (L' := c9 :: [(U, HO.lst ((useM F rows).map V.int))] :: [(M, HO.dK kvs)] :: L) (by walk_at "lic") ⟨rfl, c9, LdT.to hc9 e, rfl⟩
  rintro a0 a1 L' ⟨c, hc, rfl⟩
  rw [List.take_length] at hc
  walk_at "sl"
  walk_at "w"
  walk_at "g1"
  exact Wk.by_ (L' := c :: L) (by walk_at "lic") (h _ _ hc)
theorem ok_ring_of (T : Txt K mg) : OkF P w K mg base 1 "ring_of" ["ups", "folder"] (sp_ring_of K) := by
  obtain ⟨fd, F⟩ := T.f_ring_of
  refine ⟨T.g_ring_of, fd, fn_ok2 F sc_ring_of (len2 rfl) (fun cdv A outer s H E hr => have hu := hr.units; ⟨_, ((lss_cons (ls_set 2 sc_ring_of.nd (llst (la_cons (lv 1) la_nil)))
      (lss_cons (ls_while PassesOwn.never (LW.pt (lw_and (lt_cmp (ko_in K hu) (lix (kx_ix K hu) (lv 2) (lun lo_neg lint) (fun _ _ => rfl)) (lv 0) (by rfl)) (lw_and1 (lt_cmp (ko_notIn K hu) (lix (kx_ix K hu) (lix (kx_ix K hu) (lv 0) (lix (kx_ix K hu) (lv 2) (lun lo_neg lint) (fun _ _ => rfl)) (fun _ _ => rfl)) lint (fun _ _ => rfl)) (lv 2) (by rfl))))) (lss_one (ls_expr (kbm K PySem.F.plainAttrs_list PySem.F.slot_list_append PySem.F.type_list_append lm_append (lv 2) (la_cons (lix (kx_ix K hu) (lix (kx_ix K hu) (lv 0) (lix (kx_ix K hu) (lv 2) (lun lo_neg lint) (fun _ _ => rfl)) (fun _ _ => rfl)) lint (fun _ _ => rfl)) la_nil)))))
      (lss_cons (ls_if (LW.pt (lw_and (lt_cmp (ko_in K hu) (lix (kx_ix K hu) (lv 2) (lun lo_neg lint) (fun _ _ => rfl)) (lv 0) (by rfl)) (lw_and1 (lt_cmp (ko_eq K hu) (lix (kx_ix K hu) (lix (kx_ix K hu) (lv 0) (lix (kx_ix K hu) (lv 2) (lun lo_neg lint) (fun _ _ => rfl)) (fun _ _ => rfl)) lint (fun _ _ => rfl)) (lv 1) (nomark _))))) (lss_one (ls_ret (lv 2))) lss_nil)
      (lss_one (ls_ret (llst la_nil))))))), fun vs L Q EL σ h hσ => ?_⟩), F.bindsN (fun _ _ _ _ _ _ us hl => match us, hl with | [_, _], _ => rfl), F.kp⟩
  obtain ⟨x0, x1, rfl, h⟩ := h
  have hσ : ([some x0, some x1, none] : St) = σ := hσ
  subst hσ
  clear hσ hu hr F
  obtain ⟨u, cu, ups, f, F, E, rfl, rfl, h1, h2, h3, h4, h⟩ := h
  walk_at "w"
  rename_i FO
  refine f_while (fun k σ' L' => σ' = [some (.ref u), some (.int f), some (.ref FO)] ∧ ∃ n, Dst (gM ups) f (n + 1) ∧ (∀ i, i < n + 1 → 0 ≤ itg (gM ups) i f ∧ itg (gM ups) i f < F) ∧ k = F.toNat + 1 - (n + 1) ∧ L' = [(FO, HO.lst ((ringL (gM ups) f (n + 1)).map V.int))] :: L) (Wk.go ⟨_, rfl, 0, Dst.one, (fun i hi => by rw [show i = 0 by omega]; exact ⟨h4.1, h4.2.1⟩), rfl, rfl⟩) ?_
  rintro k σ' L' ⟨rfl, n, hd, hb, rfl, rfl⟩
  have hl : (ringL (gM ups) f (n + 1)).getLast? = some (itg (gM ups) n f) := ringL_last
  have hle := hd.le (F := F.toNat) (fun i hi => by have := hb i hi; omega)
  have hlen : (ringL (gM ups) f (n + 1)).length = n + 1 := ringL_len
  have e1 : gM ups (itg (gM ups) n f) = itg (gM ups) (n + 1) f := rfl
  walk_at "w"
  all_goals walk_at "g1"
  all_goals first
    | exact Wk.by_ (by walk_at "lic") (h _ _ (RingP.a hd (by assumption)))
    | exact Wk.by_ (by walk_at "lic") (h _ [] (RingP.b hd (by assumption) (by assumption)))
    | exact Wk.by_ (by walk_at "lic") (h _ [] (RingP.c h3 hd h4.1 (by assumption)))
    | exact absurd (Eq.trans (Eq.symm ‹keyB ups (itg (gM ups) n f) = true›) ‹keyB ups (itg (gM ups) n f) = false›) (by decide)
    | (refine Wk.go ⟨_, ?_, rfl, n + 1, hd.snoc (by rw [← e1]; assumption), fun i hi => ?_, rfl, ?_⟩
       · have := (hd.snoc (n := n + 1) (by rw [← e1]; assumption)).le (F := F.toNat) (fun i hi => by
           by_cases e : i = n + 1
           · have := h3.key ‹keyB ups (itg (gM ups) n f) = true›
             rw [e, ← e1]; omega
           · have := hb i (by omega); omega)
         omega
       · by_cases e : i = n + 1
         · have := h3.key ‹keyB ups (itg (gM ups) n f) = true›
           rw [e, ← e1]; omega
         · exact hb i (by omega)
       · rw [ringL_succ (n := n + 1), List.map_append, ← e1]; rfl)
theorem ok_wrong_rings (T : Txt K mg) (G_ring_of : OkF P w K mg base 1 "ring_of" ["ups", "folder"] (sp_ring_of K)) (G_slot_at : OkF P w K mg base 2 "slot_at" ["layout", "s"] (sp_slot_at K)) (G_right_slots : OkF P w K mg base 4 "right_slots" ["layout", "volume"] (sp_right_slots K)) (G_is_folder : OkF P w K mg base 1 "is_folder" ["layout", "volume", "f"] (sp_is_folder K)) : OkF P w K mg base 5 "wrong_rings" ["layout", "volume"] (sp_wrong_rings K) := by
  obtain ⟨fd, F⟩ := T.f_wrong_rings
  refine ⟨T.g_wrong_rings, fd, fn_ok2 F sc_wrong_rings (len2 rfl) (fun cdv A outer s H E hr => have hu := hr.units; ⟨_, ((lss_cons (ls_set 2 sc_wrong_rings.nd ldict0)
      (lss_cons (ls_for PassesOwn.never rfl (ki_list K (lcallO G_right_slots (hr.mono (by decide)) rfl (la_cons (lv 0) (la_cons (lv 1) la_nil)))) (kg_tup K (n := 4) rfl (lgs_cons (lg_name 3 sc_wrong_rings.nd) (lgs_cons (lg_name 4 sc_wrong_rings.nd) (lgs_cons (lg_name 5 sc_wrong_rings.nd) (lgs_cons (lg_name 6 sc_wrong_rings.nd) lgs_nil))))) (lss_one (ls_if (kt_truth K (lcallO G_is_folder (hr.mono (by decide)) rfl (la_cons (lv 0) (la_cons (lv 1) (la_cons (lv 6) la_nil))))) (lss_one (ls_asg (ltup (la_cons (lv 4) (la_cons (lv 3) la_nil))) (lg_sub (lv 2) (lv 6) (lset_ok hu)))) lss_nil)))
      (lss_cons (ls_set 7 sc_wrong_rings.nd (llst la_nil))
      (lss_cons (ls_for PassesOwn.never rfl (ki_list K (lcallB lk_sortedD (by rfl) T.n_sorted (by decide +kernel) (la_cons (lv 2) la_nil))) (lg_name 4 sc_wrong_rings.nd) (lss_one (ls_if (lt_cmp (ko_eq K hu) (kmin_d K hu rfl T.n_min (lcallO G_ring_of (hr.mono (by decide)) rfl (la_cons (lv 2) (la_cons (lv 4) la_nil)))) (lv 4) (nomark _)) (lss_one (ls_expr (kbm K PySem.F.plainAttrs_list PySem.F.slot_list_append PySem.F.type_list_append lm_append (lv 7) (la_cons (lop (ko_add K) (lcallO G_slot_at (hr.mono (by decide)) rfl (la_cons (lv 0) (la_cons (lix (kx_ix K hu) (lix (kx_ix K hu) (lv 2) (lv 4) (fun _ _ => rfl)) lint (fun _ _ => rfl)) la_nil))) (ltup (la_cons lint la_nil))) la_nil)))) lss_nil)))
      (lss_one (ls_ret (lv 7)))))))), fun vs L Q EL σ h hσ => ?_⟩), F.bindsN (fun _ _ _ _ _ _ us hl => match us, hl with | [_, _], _ => rfl), F.kp⟩
  obtain ⟨x0, x1, rfl, h⟩ := h
  have hσ : ([some x0, some x1, none, none, none, none, none, none] : St) = σ := hσ
  subst hσ
  clear hσ hu hr F
  clear G_ring_of G_slot_at G_right_slots G_is_folder
  obtain ⟨q, dx, F, E, B, p, as, rows, rfl, rfl, hb, hm, hv, hl, hn, h8, h⟩ := h
  have hb' := hb
  unfold inB at hb'
  walk_at "w"
  rename_i UP RS c8 hc8 xs hxs hall
  have hz8 := rightsM_len (F := F) (R := rows) (2 * E).toNat
  refine' fq_4 (k0 := 3) (k1 := 4) (k2 := 5) (k3 := 6) (fun i L' => ∃ c, DicD c UP (upD dU (upsR (foldB F rows) ((rightsM F rows (2 * E).toNat).take i))) ∧ L' = c :: c8 :: L) hall ?i0 ?iG ?is ?id
  case i0 => exact Wk.by_ (L' := [(UP, HO.dK [])] :: c8 :: L) (by walk_at "lic") ⟨_, DicD.nil, rfl⟩
  case iG => rintro i L' ⟨c, _, rfl⟩; exact IsL.at_ (At.tl (At.hd hxs))
  case is =>
    rintro i r t a0 a1 a2 a3 L' hi m ⟨c, hc, rfl⟩
    have hr4 := rightsM_4 _ _ (List.mem_of_getElem? hi)
    have hnew := pw_take (rightsM_pw (F := F) (R := rows) (2 * E).toNat) hi
    have e := upsR_snoc (isF := foldB F rows) (rs := (rightsM F rows (2 * E).toNat).take i) (t := r)
    rw [show (rightsM F rows (2 * E).toNat).take i ++ [r] = (rightsM F rows (2 * E).toNat).take (i + 1) by rw [List.take_succ, hi]; rfl] at e
    obtain ⟨n0, n1, n2, n3, rfl⟩ := list4 hr4
    have hu : ∀ {L : Lg}, c8 ∈ L → At L t (.tup [.int n0, .int n1, .int n2, .int n3]) := fun hm => At.mem hm m
    have hu0 : At (c :: c8 :: L) t (.tup [.int n0, .int n1, .int n2, .int n3]) := hu (by simp)
    have hle := upsR_len (isF := foldB F rows) (rs := (rightsM F rows (2 * E).toNat).take i)
    have hle2 : ((rightsM F rows (2 * E).toNat).take i).length ≤ (rightsM F rows (2 * E).toNat).length := by rw [List.length_take]; omega
    walk_at "sl"
    walk_at "w"
    · rename_i hf T
      have hF : foldB F rows n3 = true := decide_eq_true hf
      rw [show ([n0, n1, n2, n3] : List Int).getD 3 0 = n3 from rfl, if_pos hF] at e
      refine s_set_dd hc (cs := [[(T, _)]]) (d := dU (n1, n0)) (Tel.tints (ns := [n1, n0]) (by simp)) (Pulls.cons .hd .nil) .hd (look_no fun z => ?_) (by rw [upD_len]; omega) (fun c' hc' => ?_)
      · obtain ⟨r, h1, h2, _⟩ := key_upsR.mp z
        exact (hnew r h1).2 hf h2
      · walk_at "g1"
        exact Wk.go ⟨rfl, c', by rw [e]; unfold upD; rw [List.map_append]; exact hc', rfl⟩
    · rename_i hf
      have hF : ¬ foldB F rows n3 = true := fun z => hf (of_decide_eq_true z)
      rw [show ([n0, n1, n2, n3] : List Int).getD 3 0 = n3 from rfl, if_neg hF, List.append_nil] at e
      walk_at "g1"
      exact Wk.go ⟨rfl, c, by rw [e]; exact hc, rfl⟩
  rintro a0 a1 a2 a3 L' ⟨c, hc, rfl⟩
  rw [List.take_length] at hc
  have hok := upsM2_ok (F := F) (E := E) (R := rows) (by omega)
  have hc : DicD c UP (upD dU (upsM2 F rows (2 * E).toNat)) := hc
  generalize upsM2 F rows (2 * E).toNat = ups at *
  have hul := hok.len
  walk_at "sl"
  walk_at "w"
  rename_i FO ys KS hp hpw
  have hys : ys = keysS ups := keysS_eq (by rw [← upD_keys (D := dU)]; exact hp) hpw
  subst hys
  have hkl : (keysS ups).length ≤ (2 * E).toNat := by rw [(keysS_perm ups).length_eq]; unfold keysU; rw [List.length_map]; exact hul
  refine' fi_1 (k0 := 4) (fun i L' => ∃ cF, LdT cF FO ((((keysS ups).take i).filter (minB ups)).map fun f => toldOf F (sM ups f)) ∧ L' = [(KS, HO.lst ((keysS ups).map V.int))] :: cF :: c :: L) IntsV.map ?n0 ?nG ?ns ?nd
  case n0 => exact Wk.by_ (L' := [(KS, HO.lst ((keysS ups).map V.int))] :: [(FO, HO.lst [])] :: c :: L) (by walk_at "lic") ⟨_, LdT.nil, rfl⟩
  case nG => rintro i L' ⟨cF, _, rfl⟩; exact IsL.at_ At.hd1
  case ns =>
    rintro i f b0 L' hi ⟨cF, hcF, rfl⟩
    have hkf : keyB ups f = true := keysS_mem.mp (List.mem_of_getElem? hi)
    have hkr := hok.key hkf
    have hfl : (((keysS ups).take i).filter (minB ups)).length ≤ i := Nat.le_trans (List.length_filter_le _ _) (by rw [List.length_take]; omega)
    have hilt : i < (keysS ups).length := (List.getElem?_eq_some_iff.mp hi).1
    have e : (((keysS ups).take (i + 1)).filter (minB ups)).map (fun f => toldOf F (sM ups f)) = (((keysS ups).take i).filter (minB ups)).map (fun f => toldOf F (sM ups f)) ++ if minB ups f = true then [toldOf F (sM ups f)] else [] := by
      rw [List.take_succ, hi, List.filter_append, List.map_append]
      congr 1
      cases hm : minB ups f <;> simp [hm]
    have hml : ((((keysS ups).take i).filter (minB ups)).map fun f => toldOf F (sM ups f)).length < 900000 := by rw [List.length_map]; omega
    walk_at "sl"
    walk_at "w"
    · rename_i hr hz
      rw [if_neg (fun z => hr.no hz (minB_iff.mp z)), List.append_nil] at e
      walk_at "g1"
      exact Wk.by_ (L' := [(KS, HO.lst ((keysS ups).map V.int))] :: cF :: c :: L) (by walk_at "lic") ⟨rfl, cF, LdT.to hcF e, rfl⟩
    · rename_i _ _ hr _ h1 h2 h3 _ _ _ _ _ c9 hc9
      rw [if_pos (minB_iff.mpr ((hr.min h1 h2).mp h3))] at e
      walk_at "g1"
      exact Wk.by_ (L' := [(KS, HO.lst ((keysS ups).map V.int))] :: c9 :: c :: L) (by walk_at "lic") ⟨rfl, c9, LdT.to hc9 e, rfl⟩
    · rename_i hr _ h1 h2 h3
      rw [if_neg (fun z => h3 ((hr.min h1 h2).mpr (minB_iff.mp z))), List.append_nil] at e
      walk_at "g1"
      exact Wk.by_ (L' := [(KS, HO.lst ((keysS ups).map V.int))] :: cF :: c :: L) (by walk_at "lic") ⟨rfl, cF, LdT.to hcF e, rfl⟩
  rintro b0 L' ⟨cF, hcF, rfl⟩
  rw [List.take_length] at hcF
  walk_at "sl"
  walk_at "w"
  walk_at "g1"
  exact Wk.by_ (L' := cF :: L) (by walk_at "lic") (h _ _ hcF)
theorem ok_wrong_names (T : Txt K mg) (G_slot : OkF P w K mg base 3 "slot" ["layout", "volume", "s"] (sp_slot K)) (G_slot_at : OkF P w K mg base 2 "slot_at" ["layout", "s"] (sp_slot_at K)) (G_right_slots : OkF P w K mg base 4 "right_slots" ["layout", "volume"] (sp_right_slots K)) : OkF P w K mg base 5 "wrong_names" ["layout", "volume"] (sp_wrong_names K) := by
  obtain ⟨fd, F⟩ := T.f_wrong_names
  refine ⟨T.g_wrong_names, fd, fn_ok2 F sc_wrong_names (len2 rfl) (fun cdv A outer s H E hr => have hu := hr.units; ⟨_, ((lss_cons (ls_setLc (vs := [5]) 2 rfl sc_wrong_names.nd rfl rfl (sw_true rfl rfl rfl (by decide +kernel)) (ki_list K (lcallO G_right_slots (hr.mono (by decide)) rfl (la_cons (lv 0) (la_cons (lv 1) la_nil)))) (blkOk_by (own := [("told", 5)]) (N := ["layout", "volume", "right", "found", "s", "told"]) (sc := defScope s_wrong_names) (by decide +kernel)) (fun _ _ _ _ _ => (lg_name 5 sc_wrong_names.nd)) (fun _ _ _ _ _ => lts_nil) (fun _ _ _ _ _ => (lix (kx_ix K hu) (lv 5) lint (fun _ _ => rfl))))
      (lss_cons (ls_set 3 sc_wrong_names.nd (llst la_nil))
      (lss_cons (ls_for PassesOwn.never rfl (li_range1 rfl T.n_range (la_cons (lop lo_mul lint (kfld K (lv 0))) la_nil)) (lg_name 4 sc_wrong_names.nd) (lss_one (ls_if (LW.pt (lw_and (lt_cmp (ko_ne K hu) (lix (kx_ix K hu) (lcallO G_slot (hr.mono (by decide)) rfl (la_cons (lv 0) (la_cons (lv 1) (la_cons (lv 4) la_nil)))) lint (fun _ _ => rfl)) lint (nomark _)) (lw_and1 (lt_cmp (ko_notIn K hu) (lv 4) (lv 2) (by rfl))))) (lss_one (ls_expr (kbm K PySem.F.plainAttrs_list PySem.F.slot_list_append PySem.F.type_list_append lm_append (lv 3) (la_cons (lop (ko_add K) (lcallO G_slot_at (hr.mono (by decide)) rfl (la_cons (lv 0) (la_cons (lv 4) la_nil))) (ltup (la_cons lint la_nil))) la_nil)))) lss_nil)))
      (lss_one (ls_ret (lv 3))))))), fun vs L Q EL σ h hσ => ?_⟩), F.bindsN (fun _ _ _ _ _ _ us hl => match us, hl with | [_, _], _ => rfl), F.kp⟩
  obtain ⟨x0, x1, rfl, h⟩ := h
  have hσ : ([some x0, some x1, none, none, none, none] : St) = σ := hσ
  subst hσ
  clear hσ hu hr F
  clear G_slot G_slot_at G_right_slots
  have t_cl_Layout := T.cl_Layout
  have t_na_Layout_files := T.na_Layout_files
  have t_na_Layout_slots := T.na_Layout_slots
  have t_na_Layout_data := T.na_Layout_data
  obtain ⟨q, dx, F, E, B, p, as, rows, rfl, rfl, hb, hm, hv, hl, hn, h8, h⟩ := h
  have hb' := hb
  unfold inB at hb'
  walk_at "w"
  rename_i RS c8 hc8 xs hxs hall
  have hz8 := rightsM_len (F := F) (R := rows) (2 * E).toNat
  refine' a_intsT (fun r => r.getD 0 0) ?h1 ?h2 hall rfl ?h4 ?h5 ?h6
  case h1 => walk_at "mem"
  case h2 => assumption
  case h4 => omega
  case h5 =>
    intro r t acc Dl hr m hacc
    have hr4 := rightsM_4 _ r hr
    have hu : ∀ {L : Lg}, c8 ∈ L → At L t (.tup (r.map V.int)) := fun hm => At.mem hm m
    walk_at "w"
  intro RI
  walk_at "w"
  rename_i FO
  refine' fr_1 (k0 := 4) (fun i L' => ∃ c, LdT c FO (accM (wnst F rows) i) ∧ L' = c :: [(RI, HO.lst (List.map V.int (List.map (fun r => r.getD 0 0) (rightsM F rows (2 * E).toNat))))] :: c8 :: L) ?i0 ?is ?id
  case i0 => exact Wk.go ⟨_, LdT.nil, rfl⟩
  case is =>
    rintro i a0 L' hi ⟨c, hc, rfl⟩
    have hz := accM_len (g := wnst F rows) (fun s => wnst_len F rows s) i
    have hzz : (accM (wnst F rows) i).length < 1000000 := by omega
    have hheads := rightsM_heads (F := F) (R := rows) (2 * E).toNat (i : Int)
    have hk : (i : Int) ∈ (rightsM F rows (2 * E).toNat).map (fun r => r.getD 0 0) ↔ okS F rows i (rightsM F rows i) := ⟨fun h => by
      obtain ⟨s, h1, h2, h3⟩ := hheads.mp h
      have : s = i := by omega
      subst this
      exact h3, fun h => hheads.mpr ⟨i, hi, rfl, h⟩⟩
    have e := accM_succ (wnst F rows) i
    rw [show wnst F rows i = if ¬ slG F rows i 0 = 0 ∧ ¬ okS F rows i (rightsM F rows i) then [[10 + F + (i : Int) / 2, (i : Int) % 2 * 4, 0]] else [] from rfl] at e
    walk_at "sl"
    walk_at "w"
    · rw [if_neg (fun z => absurd (by assumption) z.1)] at e
      walk_at "g1"
      exact Wk.by_ (L' := c :: [(RI, HO.lst (List.map V.int (List.map (fun r => r.getD 0 0) (rightsM F rows (2 * E).toNat))))] :: c8 :: L) (by walk_at "lic") ⟨rfl, c, LdT.to hc (by rw [e, List.append_nil]), rfl⟩
    · rename_i hin
      rw [if_neg (fun z => absurd (hk.mp hin) z.2)] at e
      walk_at "g1"
      exact Wk.by_ (L' := c :: [(RI, HO.lst (List.map V.int (List.map (fun r => r.getD 0 0) (rightsM F rows (2 * E).toNat))))] :: c8 :: L) (by walk_at "lic") ⟨rfl, c, LdT.to hc (by rw [e, List.append_nil]), rfl⟩
    · rename_i h0 hin _ _ _ c9 hc9
      rw [if_pos ⟨h0, fun z => absurd (hk.mpr z) hin⟩] at e
      walk_at "g1"
      exact Wk.by_ (L' := c9 :: [(RI, HO.lst (List.map V.int (List.map (fun r => r.getD 0 0) (rightsM F rows (2 * E).toNat))))] :: c8 :: L) (by walk_at "lic") ⟨rfl, c9, LdT.to hc9 e, rfl⟩
  rintro a0 L' ⟨c, hc, rfl⟩
  walk_at "sl"
  walk_at "w"
  walk_at "g1"
  exact Wk.by_ (L' := c :: L) (by walk_at "lic") (h _ _ hc)
theorem ok_wrong_pieces (T : Txt K mg) (G_walk_files : OkF P w K mg base 5 "walk_files" ["layout", "volume"] (sp_walk_files K)) : OkF P w K mg base 6 "wrong_pieces" ["layout", "volume"] (sp_wrong_pieces K) := by
  obtain ⟨fd, F⟩ := T.f_wrong_pieces
  refine ⟨T.g_wrong_pieces, fd, fn_ok2 F sc_wrong_pieces (len2 rfl) (fun cdv A outer s H E hr => have hu := hr.units; ⟨_, ((lss_one (ls_ret (lix (kx_ix K hu) (lcallO G_walk_files (hr.mono (by decide)) rfl (la_cons (lv 0) (la_cons (lv 1) la_nil))) lint (fun _ _ => rfl))))), fun vs L Q EL σ h hσ => ?_⟩), F.bindsN (fun _ _ _ _ _ _ us hl => match us, hl with | [_, _], _ => rfl), F.kp⟩
  obtain ⟨x0, x1, rfl, h⟩ := h
  have hσ : ([some x0, some x1] : St) = σ := hσ
  subst hσ
  clear hσ hu hr F
  clear G_walk_files
  obtain ⟨q, dx, F, E, B, p, as, rows, rfl, rfl, hb, hm, hv, hl, hn, h8, h⟩ := h
  have hb' := hb
  unfold inB at hb'
  walk_at "w"
  rename_i wk T W c8 hc8
  walk_at "g1"
  exact Wk.by_ (L' := c8 :: L) (by walk_at "lic") (h _ _ hc8)
theorem ok_is_number (T : Txt K mg) : OkF P w K mg base 1 "is_number" ["thing"] (sp_is_number K) := by
  obtain ⟨fd, F⟩ := T.f_is_number
  refine ⟨T.g_is_number, fd, fn_ok2 F sc_is_number (len1 rfl) (fun cdv A outer s H E hr => have hu := hr.units; ⟨_, ((lss_one (ls_ret (land (lcallB (kk_isi K) (by rfl) T.n_isinstance (by decide +kernel) (la_cons (lv 0) (la_cons (lbltn (v := .ty "int") rfl T.n_int (by decide +kernel) rfl) la_nil))) (land (lnot (lcallB (kk_isi K) (by rfl) T.n_isinstance (by decide +kernel) (la_cons (lv 0) (la_cons (lbltn (v := .ty "bool") rfl T.n_bool (by decide +kernel) rfl) la_nil)))) (lone (lcmp lo_lt (lcallB lk_abs (by rfl) T.n_abs (by decide +kernel) (la_cons (lv 0) la_nil)) (lglobI rfl T.i_BEYOND) (nomark _)))))))), fun vs L Q EL σ h hσ => ?_⟩), F.bindsN (fun _ _ _ _ _ _ us hl => match us, hl with | [_], _ => rfl), F.kp⟩
  obtain ⟨x0, rfl, h⟩ := h
  have hσ : ([some x0] : St) = σ := hσ
  subst hσ
  clear hσ hu hr F
  obtain ⟨x, rfl, h⟩ := h
  walk_at "w"
  exact Wk.go h
theorem ok_is_row (T : Txt K mg) (G_is_number : OkF P w K mg base 1 "is_number" ["thing"] (sp_is_number K)) : OkF P w K mg base 2 "is_row" ["row"] (sp_is_row K) := by
  obtain ⟨fd, F⟩ := T.f_is_row
  refine ⟨T.g_is_row, fd, fn_ok2 F sc_is_row (len1 rfl) (fun cdv A outer s H E hr => have hu := hr.units; ⟨_, ((lss_one (ls_ret (land (lcallB (kk_isi K) (by rfl) T.n_isinstance (by decide +kernel) (la_cons (lv 0) (la_cons (lbltn (v := .ty "list") rfl T.n_list (by decide +kernel) rfl) la_nil))) (land (lcmp (ko_eq K hu) (lcallB (kk_len K) (by rfl) T.n_len (by decide +kernel) (la_cons (lv 0) la_nil)) (lglobI rfl T.i_WIDE) (nomark _)) (lone (lcallB (kk_all K) (by rfl) T.n_all (by decide +kernel) (la_cons (llc (vs := [1]) rfl sc_is_row.nd (ki_list K (lv 0)) (blkOk_by (own := [("number", 1)]) (N := ["row", "number"]) (sc := defScope s_is_row) (by decide +kernel)) (fun _ _ _ _ _ => (lg_name 1 sc_is_row.nd)) (fun _ _ _ _ _ => lts_nil) (fun _ _ _ _ _ => (lcallO G_is_number (hr.mono (by decide)) rfl (la_cons (lv 1) la_nil)))) la_nil)))))))), fun vs L Q EL σ h hσ => ?_⟩), F.bindsN (fun _ _ _ _ _ _ us hl => match us, hl with | [_], _ => rfl), F.kp⟩
  obtain ⟨x0, rfl, h⟩ := h
  have hσ : ([some x0, none] : St) = σ := hσ
  subst hσ
  clear hσ hu hr F
  clear G_is_number
  obtain ⟨p, ns, rfl, hp, hl, ho, h⟩ := h
  walk_at "w"
  have e : (List.map okN ns).all id = true := by
    rw [List.all_eq_true]
    intro b hb
    obtain ⟨x, hx, rfl⟩ := List.mem_map.mp hb
    exact ho x hx
  rw [e]
  exact Wk.by_ (by walk_at "lic") h
theorem ok_check_form (T : Txt K mg) (G_is_row : OkF P w K mg base 2 "is_row" ["row"] (sp_is_row K)) (G_Layout_many : OkM P w K mg base 1 (He.ma K (He.ga K "Layout") "many") ["self"] (sp_Layout_many K)) : OkF P w K mg base 3 "check_form" ["layout", "volume"] (sp_check_form K) := by
  obtain ⟨fd, F⟩ := T.f_check_form
  refine ⟨T.g_check_form, fd, fn_ok2 F sc_check_form (len2 rfl) (fun cdv A outer s H E hr => have hu := hr.units; ⟨_, ((lss_cons (ls_if (LW.pt (lw_or (lt_not (kt_truth K (lcallB (kk_isi K) (by rfl) T.n_isinstance (by decide +kernel) (la_cons (lv 1) (la_cons (lbltn (v := .ty "list") rfl T.n_list (by decide +kernel) rfl) la_nil))))) (lw_or1 (lt_cmp (ko_ne K hu) (lcallB (kk_len K) (by rfl) T.n_len (by decide +kernel) (la_cons (lv 1) la_nil)) (lmethO0 T.cl_Layout T.me_Layout_many G_Layout_many (hr.mono (by decide)) (lv 0)) (nomark _))))) (lss_one ls_never) lss_nil)
      (lss_one (ls_for PassesOwn.never rfl (li_range1 rfl T.n_range (la_cons (lcallB (kk_len K) (by rfl) T.n_len (by decide +kernel) (la_cons (lv 1) la_nil)) la_nil)) (lg_name 2 sc_check_form.nd) (lss_one (ls_if (lt_not (kt_truth K (lcallO G_is_row (hr.mono (by decide)) rfl (la_cons (lix (kx_ix K hu) (lv 1) (lv 2) (fun _ _ => rfl)) la_nil)))) (lss_one ls_never) lss_nil)))))), fun vs L Q EL σ h hσ => ?_⟩), F.bindsN (fun _ _ _ _ _ _ us hl => match us, hl with | [_, _], _ => rfl), F.kp⟩
  obtain ⟨x0, x1, rfl, h⟩ := h
  have hσ : ([some x0, some x1, none] : St) = σ := hσ
  subst hσ
  clear hσ hu hr F
  clear G_is_row G_Layout_many
  obtain ⟨q, dx, F, E, B, p, as, rows, rfl, rfl, hm, hv, hl, hn, hz, h8, hb, h⟩ := h
  walk_at "w"
  refine f_range0 (fun i σ L' => ∃ v2, σ = [some (.ref q), some (.ref p), v2] ∧ L' = L) (Wk.go ⟨none, rfl, rfl⟩) ?_ ?_
  · rintro i σ L' hi ⟨v2, rfl, rfl⟩
    have hi : i < rows.length := by simp at hi; omega
    have hr := rowAt_mem (rows := rows) (j := (i : Int)) (by omega) (by omega)
    walk_at "w"
    refine Wk.go ?_
    refine c_is_row (row_at hv hl (by omega) (by omega)) (h8 _ hr) (fun x hx => okN_of (hb _ hr x hx)) ?_
    walk_at "w"
    walk_at "go"
    exact ⟨_, rfl, rfl⟩
  rintro σ L' ⟨v2, rfl, rfl⟩
  walk_at "go"
  exact h
theorem ok_wrong (T : Txt K mg) (G_wrong_early : OkF P w K mg base 6 "wrong_early" ["layout", "volume", "clause"] (sp_wrong_early K)) (G_wrong_map : OkF P w K mg base 6 "wrong_map" ["layout", "volume"] (sp_wrong_map K)) (G_wrong_counts : OkF P w K mg base 6 "wrong_counts" ["layout", "volume"] (sp_wrong_counts K)) (G_wrong_found : OkF P w K mg base 6 "wrong_found" ["layout", "volume"] (sp_wrong_found K)) (G_wrong_rings : OkF P w K mg base 5 "wrong_rings" ["layout", "volume"] (sp_wrong_rings K)) (G_wrong_names : OkF P w K mg base 5 "wrong_names" ["layout", "volume"] (sp_wrong_names K)) (G_wrong_pieces : OkF P w K mg base 6 "wrong_pieces" ["layout", "volume"] (sp_wrong_pieces K)) (G_check_form : OkF P w K mg base 3 "check_form" ["layout", "volume"] (sp_check_form K)) : OkF P w K mg base 7 "wrong" ["layout", "volume", "clause"] (sp_wrong K) := by
  obtain ⟨fd, F⟩ := T.f_wrong
  refine ⟨T.g_wrong, fd, fn_ok2 F sc_wrong (len3 rfl) (fun cdv A outer s H E hr => have hu := hr.units; ⟨_, ((lss_cons (ls_expr (lcallO G_check_form (hr.mono (by decide)) rfl (la_cons (lv 0) (la_cons (lv 1) la_nil))))
      (lss_cons (ls_if (lt_cmp (ko_eq K hu) (lv 2) lstr (nomark _)) (lss_one (ls_ret (lcallO G_wrong_pieces (hr.mono (by decide)) rfl (la_cons (lv 0) (la_cons (lv 1) la_nil))))) lss_nil)
      (lss_cons (ls_if (lt_cmp (ko_eq K hu) (lv 2) lstr (nomark _)) (lss_one (ls_ret (lcallO G_wrong_names (hr.mono (by decide)) rfl (la_cons (lv 0) (la_cons (lv 1) la_nil))))) lss_nil)
      (lss_cons (ls_if (lt_cmp (ko_eq K hu) (lv 2) lstr (nomark _)) (lss_one (ls_ret (lcallO G_wrong_rings (hr.mono (by decide)) rfl (la_cons (lv 0) (la_cons (lv 1) la_nil))))) lss_nil)
      (lss_cons (ls_if (lt_cmp (ko_eq K hu) (lv 2) lstr (nomark _)) (lss_one (ls_ret (lcallO G_wrong_found (hr.mono (by decide)) rfl (la_cons (lv 0) (la_cons (lv 1) la_nil))))) lss_nil)
      (lss_cons (ls_if (lt_cmp (ko_eq K hu) (lv 2) lstr (nomark _)) (lss_one (ls_ret (lcallO G_wrong_counts (hr.mono (by decide)) rfl (la_cons (lv 0) (la_cons (lv 1) la_nil))))) lss_nil)
      (lss_cons (ls_if (lt_cmp (ko_eq K hu) (lv 2) lstr (nomark _)) (lss_one (ls_ret (lcallO G_wrong_map (hr.mono (by decide)) rfl (la_cons (lv 0) (la_cons (lv 1) la_nil))))) lss_nil)
      (lss_one (ls_ret (lcallO G_wrong_early (hr.mono (by decide)) rfl (la_cons (lv 0) (la_cons (lv 1) (la_cons (lv 2) la_nil)))))))))))))), fun vs L Q EL σ h hσ => ?_⟩), F.bindsN (fun _ _ _ _ _ _ us hl => match us, hl with | [_, _, _], _ => rfl), F.kp⟩
  obtain ⟨x0, x1, x2, rfl, h⟩ := h
  have hσ : ([some x0, some x1, some x2] : St) = σ := hσ
  subst hσ
  clear hσ hu hr F
  clear G_wrong_early G_wrong_map G_wrong_counts G_wrong_found G_wrong_rings G_wrong_names G_wrong_pieces G_check_form
  obtain ⟨q, dx, F, E, B, p, as, rows, cl, ts, rfl, rfl, rfl, hb, hm, hv, hl, hn, h8, hbd, ⟨i, hi, rfl, rfl⟩, h⟩ := h
  have hb' := hb
  unfold inB at hb'
  have : i = 0 ∨ i = 1 ∨ i = 2 ∨ i = 3 ∨ i = 4 ∨ i = 5 ∨ i = 6 ∨ i = 7 ∨ i = 8 ∨ i = 9 ∨ i = 10 := by omega
  rcases this with rfl | rfl | rfl | rfl | rfl | rfl | rfl | rfl | rfl | rfl | rfl
  all_goals (simp only [CLn, CLs, List.getD_cons_zero, List.getD_cons_succ])
  all_goals walk_at "w"
  all_goals first
    | (walk_at "g1"; exact Wk.go (h _ _ (by assumption)))
    | (refine Wk.go (c_wearly 0 rfl (by omega) hb hm hv hl hn h8 (fun r c hc => ?_)); walk_at "g1"; exact Wk.go (h _ _ hc))
    | (refine Wk.go (c_wearly 1 rfl (by omega) hb hm hv hl hn h8 (fun r c hc => ?_)); walk_at "g1"; exact Wk.go (h _ _ hc))
    | (refine Wk.go (c_wearly 2 rfl (by omega) hb hm hv hl hn h8 (fun r c hc => ?_)); walk_at "g1"; exact Wk.go (h _ _ hc))
    | (refine Wk.go (c_wearly 3 rfl (by omega) hb hm hv hl hn h8 (fun r c hc => ?_)); walk_at "g1"; exact Wk.go (h _ _ hc))
    | (refine Wk.go (c_wearly 4 rfl (by omega) hb hm hv hl hn h8 (fun r c hc => ?_)); walk_at "g1"; exact Wk.go (h _ _ hc))
theorem ok_faults (T : Txt K mg) (G_wrong : OkF P w K mg base 7 "wrong" ["layout", "volume", "clause"] (sp_wrong K)) (G_check_form : OkF P w K mg base 3 "check_form" ["layout", "volume"] (sp_check_form K)) : OkF P w K mg base 8 "faults" ["layout", "volume"] (sp_faults K) := by
  obtain ⟨fd, F⟩ := T.f_faults
  refine ⟨T.g_faults, fd, fn_ok2 F sc_faults (len2 rfl) (fun cdv A outer s H E hr => have hu := hr.units; ⟨_, ((lss_cons (ls_expr (lcallO G_check_form (hr.mono (by decide)) rfl (la_cons (lv 0) (la_cons (lv 1) la_nil))))
      (lss_one (ls_ret (llc (vs := [2]) rfl sc_faults.nd (ki_tup K (lglob (v := .ref (He.ga _ "CLAUSES")) rfl T.gc_CLAUSES rfl)) (blkOk_by (own := [("clause", 2)]) (N := ["layout", "volume", "clause"]) (sc := defScope s_faults) (by decide +kernel)) (fun _ _ _ _ _ => (lg_name 2 sc_faults.nd)) (fun _ _ _ _ _ => (lts_one (lt_cmp (ko_ne K hu) (lcallO G_wrong (hr.mono (by decide)) rfl (la_cons (lv 0) (la_cons (lv 1) (la_cons (lv 2) la_nil)))) (llst la_nil) (nomark _)))) (fun _ _ _ _ _ => (lv 2))))))), fun vs L Q EL σ h hσ => ?_⟩), F.bindsN (fun _ _ _ _ _ _ us hl => match us, hl with | [_, _], _ => rfl), F.kp⟩
  obtain ⟨x0, x1, rfl, h⟩ := h
  have hσ : ([some x0, some x1, none] : St) = σ := hσ
  subst hσ
  clear hσ hu hr F
  clear G_wrong G_check_form
  have t_tp_CLAUSES := T.tp_CLAUSES
  obtain ⟨q, dx, F, E, B, p, as, rows, rfl, rfl, hb, hm, hv, hl, hn, h8, hbd, h⟩ := h
  have hb' := hb
  unfold inB at hb'
  have hSh : Sh (10 + F + E + B) rows := ⟨hn, h8⟩
  walk_at "w"
  intro Dl _
  refine c_tup (fun i acc L' => acc = (((List.range i).filter (badB F E B rows)).map CLn).map V.str ∧ i ≤ 11 ∧ L' = L) rfl (Wk.go ⟨rfl, Nat.zero_le _, rfl⟩) ?_ ?_ ?_
  · rintro i acc L' ⟨rfl, _, rfl⟩
    walk_at "ist"
  · rintro i acc x L' hi ⟨rfl, _, rfl⟩
    obtain ⟨hi11, rfl⟩ := CLs_get hi
    have hw : WrongIs (CLn i) F E B rows (wlM F E B i rows) := ⟨i, hi11, rfl, rfl⟩
    have hz : ((((List.range i).filter (badB F E B rows)).map CLn).map V.str).length < 1000000 := by
      rw [List.length_map, List.length_map]
      have := List.length_filter_le (badB F E B rows) (List.range i)
      rw [List.length_range] at this
      omega
    have e : (((List.range (i + 1)).filter (badB F E B rows)).map CLn).map V.str = (((List.range i).filter (badB F E B rows)).map CLn).map V.str ++ if badB F E B rows i = true then [V.str (CLn i)] else [] := by
      rw [List.range_succ, List.filter_append]
      cases hf : badB F E B rows i <;> simp [hf]
    walk_at "w"
    · rename_i hn
      have hb0 : ¬ badB F E B rows i = true := by unfold badB; rw [decide_eq_true hn]; decide
      rw [if_neg hb0, List.append_nil] at e
      exact s_lcn (by walk_at "lic") ⟨e.symm, hi11, rfl⟩
    · rename_i hn
      have hb1 : badB F E B rows i = true := by unfold badB; rw [decide_eq_false hn]; decide
      rw [if_pos hb1] at e
      exact s_lcy hz (by walk_at "lic") ⟨e.symm, hi11, rfl⟩
  rintro acc L' ⟨rfl, _, rfl⟩
  rw [show (List.map V.str CLs).length = 11 from rfl]
  walk_at "w"
  walk_at "g1"
  exact Wk.go (h _)
theorem ok_mend (T : Txt K mg) (G_wrong : OkF P w K mg base 7 "wrong" ["layout", "volume", "clause"] (sp_wrong K)) (G_check_form : OkF P w K mg base 3 "check_form" ["layout", "volume"] (sp_check_form K)) : OkF P w K mg base 8 "mend" ["layout", "volume"] (sp_mend K) := by
  obtain ⟨fd, F⟩ := T.f_mend
  refine ⟨T.g_mend, fd, fn_ok2 F sc_mend (len2 rfl) (fun cdv A outer s H E hr => have hu := hr.units; ⟨_, ((lss_cons (ls_expr (lcallO G_check_form (hr.mono (by decide)) rfl (la_cons (lv 0) (la_cons (lv 1) la_nil))))
      (lss_cons (ls_setLc (vs := [8]) 2 rfl sc_mend.nd rfl rfl (sw_true rfl rfl rfl (by decide +kernel)) (ki_list K (lv 1)) (blkOk_by (own := [("row", 8)]) (N := ["layout", "volume", "rows", "changes", "clause", "block", "place", "number", "row"]) (sc := defScope s_mend) (by decide +kernel)) (fun _ _ _ _ _ => (lg_name 8 sc_mend.nd)) (fun _ _ _ _ _ => lts_nil) (fun _ _ _ _ _ => (lcallTy (kk_list K) (by rfl) T.n_list (by decide +kernel) (la_cons (lv 8) la_nil))))
      (lss_cons (ls_set 3 sc_mend.nd (llst la_nil))
      (lss_cons (ls_for PassesOwn.never rfl (ki_tup K (lglob (v := .ref (He.ga _ "CLAUSES")) rfl T.gc_CLAUSES rfl)) (lg_name 4 sc_mend.nd) (lss_one (ls_for PassesOwn.never rfl (ki_list K (lcallO G_wrong (hr.mono (by decide)) rfl (la_cons (lv 0) (la_cons (lv 2) (la_cons (lv 4) la_nil))))) (kg_tup K (n := 3) rfl (lgs_cons (lg_name 5 sc_mend.nd) (lgs_cons (lg_name 6 sc_mend.nd) (lgs_cons (lg_name 7 sc_mend.nd) lgs_nil)))) (lss_cons (ls_asg (lv 7) (lg_sub (lix (kx_ix K hu) (lv 2) (lv 5) (fun _ _ => rfl)) (lv 6) (lset_ok hu)))
      (lss_one (ls_expr (kbm K PySem.F.plainAttrs_list PySem.F.slot_list_append PySem.F.type_list_append lm_append (lv 3) (la_cons (ltup (la_cons (lv 4) (la_cons (lv 5) (la_cons (lv 6) (la_cons (lv 7) la_nil))))) la_nil))))))))
      (lss_one (ls_ret (ltup (la_cons (lv 2) (la_cons (lv 3) la_nil)))))))))), fun vs L Q EL σ h hσ => ?_⟩), F.bindsN (fun _ _ _ _ _ _ us hl => match us, hl with | [_, _], _ => rfl), F.kp⟩
  obtain ⟨x0, x1, rfl, h⟩ := h
  have hσ : ([some x0, some x1, none, none, none, none, none, none, none] : St) = σ := hσ
  subst hσ
  clear hσ hu hr F
  clear G_wrong G_check_form
  have t_tp_CLAUSES := T.tp_CLAUSES
  obtain ⟨q, dx, F, E, B, p, as, rows, rfl, rfl, hb, hm, hv, hl, hn, h8, hbd, h⟩ := h
  have hb' := hb
  unfold inB at hb'
  have hSh : Sh (10 + F + E + B) rows := ⟨hn, h8⟩
  have hSn := fun i hi => mend_snd hb hSh i hi
  walk_at "w"
  rename_i p2 as2 hl2 CH
  refine f_tup (fun i σ' L' => ∃ b4 b5 b6 b7, σ' = [some (.ref q), some (.ref p), some (.ref p2), some (.ref CH), b4, b5, b6, b7, none] ∧ ∃ c, LdC c CH (chgN F E B rows i) ∧ L' = volC p2 as2 (mendN F E B rows i) :: c :: L) ?_ ?_ ?_ ?_
  · exact Wk.by_ (L' := volC p2 as2 rows :: [(CH, HO.lst [])] :: L) (by walk_at "lic") ⟨_, _, _, _, rfl, _, LdD.nil, rfl⟩
  · rintro i σ' L' ⟨b4, b5, b6, b7, rfl, c, hc, rfl⟩
    walk_at "ist"
  · rintro i x σ' L' hi ⟨b4, b5, b6, b7, rfl, c, hc, rfl⟩
    obtain ⟨hi11, rfl⟩ := CLs_get hi
    have S := hSn i (by omega)
    have hcl := chg_len hb hSh i (by omega)
    have hwl := wl_len hb S.sh i
    have hwi := wl_in hb S
    have hw3 := wl_3 hb (i := i) (R := mendN F E B rows i)
    have hw : WrongIs (CLn i) F E B (mendN F E B rows i) (wlM F E B i (mendN F E B rows i)) := ⟨i, hi11, rfl, rfl⟩
    have hbd2 : Bnd (mendN F E B rows i) := by
      match i, S with
      | 0, _ => exact hbd
      | i + 1, S => exact bnd_of S.sh (S.bd (by omega))
    have hch : chgN F E B rows (i + 1) = chgN F E B rows i ++ (wlM F E B i (mendN F E B rows i)).map (fun t => (CLn i, t)) := rfl
    have hmd : mendN F E B rows (i + 1) = putsT (mendN F E B rows i) (wlM F E B i (mendN F E B rows i)) := rfl
    have hl3 : as2.length = (mendN F E B rows i).length := by have := S.sh.len; omega
    have hn3 : ((mendN F E B rows i).length : Int) = 10 + F + E + B := S.sh.len
    have h83 := S.sh.row
    have S0 := S.sh
    clear hSn S
    generalize mendN F E B rows i = R at *
    generalize wlM F E B i R = ts at *
    walk_at "w"
    rename_i FO cf hcf xs hxs hall
    refine' fq_3 (k0 := 5) (k1 := 6) (k2 := 7) (fun k L' => ∃ c, LdC c CH (chgN F E B rows i ++ (ts.take k).map (fun t => (CLn i, t))) ∧ L' = cf :: volC p2 as2 (putsT R (ts.take k)) :: c :: L) hall ?m0 ?mG ?ms ?md
    case m0 => exact Wk.go ⟨c, LdC.to hc (by simp), rfl⟩
    case mG => rintro k L' ⟨c, _, rfl⟩; exact IsL.at_ (At.mem List.mem_cons_self hxs)
    case ms =>
      clear hc
      rintro k r t a0 a1 a2 L' hk m ⟨c, hc, rfl⟩
      have hmem := List.mem_of_getElem? hk
      have hin := hwi r hmem
      have hkl : k < ts.length := (List.getElem?_eq_some_iff.mp hk).1
      have hpt := puts_take (R := R) hk
      have hSk : Sh (10 + F + E + B) (putsT R (ts.take k)) := S0.puts fun t' h' => hwi t' (List.mem_of_mem_take h')
      have htk : (ts.take (k + 1)).map (fun t => (CLn i, t)) = (ts.take k).map (fun t => (CLn i, t)) ++ [(CLn i, r)] := by rw [List.take_succ, hk, List.map_append]; rfl
      obtain ⟨n0, n1, n2, rfl⟩ := list3 (hw3 r hmem)
      obtain ⟨i1, i2, i3, i4⟩ := hin
      simp only [List.getD_cons_zero, List.getD_cons_succ] at i1 i2 i3 i4
      have hu : ∀ {L : Lg}, cf ∈ L → At L t (.tup [.int n0, .int n1, .int n2]) := fun hm => At.mem hm m
      have hu0 : At (cf :: volC p2 as2 (putsT R (ts.take k)) :: c :: L) t (.tup [.int n0, .int n1, .int n2]) := hu (by simp)
      rw [show putT (putsT R (ts.take k)) [n0, n1, n2] = putAt (putsT R (ts.take k)) n0 n1.toNat n2 from rfl] at hpt
      have hlk : as2.length = (putsT R (ts.take k)).length := by have := hSk.len; omega
      have h8k := hSk.row
      have hrk := rowAt_len h8k (j := n0) (by omega) (by omega)
      have hzl : ((ts.take k).map fun t => (CLn i, t)).length ≤ ts.length := by rw [List.length_map, List.length_take]; omega
      have hzA : (chgN F E B rows i ++ (ts.take k).map fun t => (CLn i, t)).length < 1000000 := by rw [List.length_append]; omega
      generalize putsT R (ts.take k) = Rk at *
      walk_at "sl"
      walk_at "w"
      rename_i c9 hc9
      walk_at "g1"
      exact Wk.by_ (L' := cf :: volC p2 as2 (putAt Rk n0 n1.toNat n2) :: c9 :: L) (by walk_at "lic") ⟨rfl, c9, LdC.to hc9 (by rw [htk, List.append_assoc]), by rw [hpt]⟩
    clear hc
    rintro a0 a1 a2 L' ⟨c, hc, rfl⟩
    rw [List.take_length] at hc ⊢
    walk_at "sl"
    exact Wk.by_ (L' := volC p2 as2 (putsT R ts) :: c :: L) (by walk_at "lic") ⟨_, _, _, _, rfl, c, LdC.to hc hch, by rw [hmd]⟩
  rintro σ' L' ⟨b4, b5, b6, b7, rfl, c, hc, rfl⟩
  rw [show (List.map V.str CLs).length = 11 from rfl] at hc ⊢
  walk_at "w"
  walk_at "g1"
  exact Wk.go (h _ _ _ _ _ hl2 hc)
theorem ok__law_words (T : Txt K mg) : OkF P w K mg base 1 "_law_words" ["_law_found"] (sp__law_words K) := by
  obtain ⟨fd, F⟩ := T.f__law_words
  refine ⟨T.g__law_words, fd, fn_ok2 F sc__law_words (len1 rfl) (fun cdv A outer s H E hr => have hu := hr.units; ⟨_, ((lss_cons (ls_set 1 sc__law_words.nd (llst (la_cons lstr (la_cons lstr (la_cons lstr (la_cons lstr (la_cons lstr (la_cons lstr (la_cons lstr (la_cons lstr (la_cons lstr (la_cons lstr (la_cons lstr la_nil)))))))))))))
      (lss_cons (ls_if (LW.pt (lw_or (lt_not (kt_truth K (lcallB (kk_isi K) (by rfl) T.n_isinstance (by decide +kernel) (la_cons (lv 0) (la_cons (lbltn (v := .ty "list") rfl T.n_list (by decide +kernel) rfl) la_nil))))) (lw_or (lt_cmp (ko_ne K hu) (lcallTy (kk_list K) (by rfl) T.n_list (by decide +kernel) (la_cons (lglob (v := .ref (He.ga _ "CLAUSES")) rfl T.gc_CLAUSES rfl) la_nil)) (lv 1) (nomark _)) (lw_or1 (lt_not (kt_truth K (lcallB (kk_isi K) (by rfl) T.n_isinstance (by decide +kernel) (la_cons (lglob (v := .ref (He.ga _ "CLAUSES")) rfl T.gc_CLAUSES rfl) (la_cons (lbltn (v := .ty "tuple") rfl T.n_tuple (by decide +kernel) rfl) la_nil))))))))) (lss_one (ls_ret lbl)) lss_nil)
      (lss_one (ls_ret (lcmp (ko_eq K hu) (lv 0) (llc (vs := [2]) rfl sc__law_words.nd (ki_list K (lv 1)) (blkOk_by (own := [("_law_word", 2)]) (N := ["_law_found", "_law_words_here", "_law_word"]) (sc := defScope s__law_words) (by decide +kernel)) (fun _ _ _ _ _ => (lg_name 2 sc__law_words.nd)) (fun _ _ _ _ _ => (lts_one (lt_cmp (ko_in K hu) (lv 2) (lv 0) (by rfl)))) (fun _ _ _ _ _ => (lv 2))) (nomark _))))))), fun vs L Q EL σ h hσ => ?_⟩), F.bindsN (fun _ _ _ _ _ _ us hl => match us, hl with | [_], _ => rfl), F.kp⟩
  obtain ⟨x0, rfl, h⟩ := h
  have hσ : ([some x0, none, none] : St) = σ := hσ
  subst hσ
  clear hσ hu hr F
  have t_tp_CLAUSES := T.tp_CLAUSES
  obtain ⟨p, ws, rfl, h1, h2, h⟩ := h
  have hws : ∀ w ∈ ws, PyData.strOk w = true := fun w hw => by
    rw [h2] at hw
    exact CLs_ok w (List.mem_filter.mp hw).1
  walk_at "w"
  rename_i A1 A2
  refine s_ne_dp (DpL.strs (ws := CLs) (by walk_at "isl")) (DpL.strs (ws := CLs) (IsL.at_ (At.tl At.hd1))) (nb_dS CLs_ok) (nb_dS CLs_ok) dS_iff ?_
  walk_at "w"
  change ∀ D : Addr, ¬ D ∈ keys ([(A2, HO.lst (CLs.map V.str))] :: [(A1, HO.lst (CLs.map V.str))] :: L) → LcR (wkL K A1 (CLs.map V.str)) _ _ _ _ _ D ([(A2, HO.lst (CLs.map V.str))] :: [(A1, HO.lst (CLs.map V.str))] :: L) _
  intro Dl _
  refine c_list (fun i acc L' => acc = ((CLs.take i).filter (fun w => decide (w ∈ ws))).map V.str ∧ i ≤ 11 ∧ L' = [(A2, HO.lst (CLs.map V.str))] :: [(A1, HO.lst (CLs.map V.str))] :: L) rfl (Wk.go ⟨rfl, Nat.zero_le _, rfl⟩) ?_ ?_ ?_
  · rintro i acc L' ⟨rfl, _, rfl⟩
    exact IsL.at_ (At.tl (At.tl At.hd1))
  · rintro i acc x L' hi ⟨rfl, _, rfl⟩
    have hi' := hi
    rw [List.getElem?_map] at hi'
    obtain ⟨y, hy, rfl⟩ := Option.map_eq_some_iff.mp hi'
    have hi11 : i < 11 := (List.getElem?_eq_some_iff.mp hy).1
    have hz : (((CLs.take i).filter (fun w => decide (w ∈ ws))).map V.str).length < 1000000 := by
      rw [List.length_map]
      have h3 := List.length_filter_le (fun w => decide (w ∈ ws)) (CLs.take i)
      rw [List.length_take] at h3
      omega
    have e : ((CLs.take (i + 1)).filter (fun w => decide (w ∈ ws))).map V.str = ((CLs.take i).filter (fun w => decide (w ∈ ws))).map V.str ++ if decide (y ∈ ws) = true then [V.str y] else [] := by
      rw [List.take_succ, hy, List.filter_append]
      cases hf : decide (y ∈ ws) <;> simp [hf]
    walk_at "w"
    refine s_in_s (ws := ws) (IsL.at_ (At.tl (At.tl (At.tl h1)))) ?_
    walk_at "w"
    · rename_i hin
      rw [if_pos (decide_eq_true hin)] at e
      exact s_lcy hz (by walk_at "lic") ⟨e.symm, hi11, rfl⟩
    · rename_i hin
      rw [if_neg (fun z => hin (of_decide_eq_true z)), List.append_nil] at e
      exact s_lcn (by walk_at "lic") ⟨e.symm, hi11, rfl⟩
  rintro acc L' ⟨rfl, _, rfl⟩
  rw [show CLs.take (List.map V.str CLs).length = CLs from rfl]
  refine Wk.go (s_eq_dp (DpL.strs (ws := ws) (IsL.at_ (At.tl (At.tl (At.tl h1))))) (DpL.strs (IsL.at_ At.hd1)) (nb_dS hws) (nb_dS fun w hw => CLs_ok w (List.mem_filter.mp hw).1) dS_iff ?_)
  exact Wk.by_ (by walk_at "lic") (q_bl h (Eq.symm (dec_t h2)))
theorem ok__law_wild (T : Txt K mg) : OkF P w K mg base 1 "_law_wild" ["_law_number", "_law_many"] (sp__law_wild K) := by
  obtain ⟨fd, F⟩ := T.f__law_wild
  refine ⟨T.g__law_wild, fd, fn_ok2 F sc__law_wild (len2 rfl) (fun cdv A outer s H E hr => have hu := hr.units; ⟨_, ((lss_cons (ls_set 2 sc__law_wild.nd (lop lo_div (lv 0) lint))
      (lss_cons (ls_set 3 sc__law_wild.nd (llst (la_cons lint (la_cons (lop lo_mod (lv 2) lint) (la_cons (lop lo_mod (lv 2) (lop (ko_add K) (lv 1) lint)) (la_cons (lop lo_mod (lv 2) (lop lo_pow lint lint)) (la_cons (lop lo_sub lint (lop lo_mod (lv 2) (lop lo_pow lint lint))) (la_cons (lop lo_mod (lv 2) (lop lo_pow lint lint)) la_nil))))))))
      (lss_one (ls_ret (lix (kx_ix K hu) (lv 3) (lop lo_mod (lv 0) lint) (fun _ _ => rfl))))))), fun vs L Q EL σ h hσ => ?_⟩), F.bindsN (fun _ _ _ _ _ _ us hl => match us, hl with | [_, _], _ => rfl), F.kp⟩
  obtain ⟨x0, x1, rfl, h⟩ := h
  have hσ : ([some x0, some x1, none, none] : St) = σ := hσ
  subst hσ
  clear hσ hu hr F
  obtain ⟨x, m, rfl, rfl, h2, h⟩ := h
  have m3 := Int.emod_nonneg (x / 6) (b := m + 3) (by omega)
  have m4 := Int.emod_lt_of_pos (x / 6) (b := m + 3) (by omega)
  walk_at "w"
  walk_at "g1"
  exact Wk.by_ (by walk_at "lic") (h _ (getD_all (P := OkI) (by unfold OkI; omega) (by intro y hy; simp only [List.mem_cons, List.not_mem_nil, or_false] at hy; unfold OkI; omega) _))
theorem ok__law_pointer (T : Txt K mg) : OkF P w K mg base 1 "_law_pointer" ["_law_x", "_law_first", "_law_data"] (sp__law_pointer K) := by
  obtain ⟨fd, F⟩ := T.f__law_pointer
  refine ⟨T.g__law_pointer, fd, fn_ok2 F sc__law_pointer (len3 rfl) (fun cdv A outer s H E hr => have hu := hr.units; ⟨_, ((lss_cons (ls_if (lt_cmp lo_lt (lop lo_mod (lv 0) lint) lint (nomark _)) (lss_one (ls_ret lint)) lss_nil)
      (lss_cons (ls_if (lt_cmp lo_lt (lop lo_mod (lv 0) lint) lint (nomark _)) (lss_one (ls_ret (lop (ko_add K) (lv 1) (lop lo_mod (lop lo_div (lv 0) lint) (lv 2))))) lss_nil)
      (lss_one (ls_ret (lop lo_mod (lop lo_div (lv 0) lint) (lop (ko_add K) (lop (ko_add K) (lv 1) (lv 2)) lint))))))), fun vs L Q EL σ h hσ => ?_⟩), F.bindsN (fun _ _ _ _ _ _ us hl => match us, hl with | [_, _, _], _ => rfl), F.kp⟩
  obtain ⟨x0, x1, x2, rfl, h⟩ := h
  have hσ : ([some x0, some x1, some x2] : St) = σ := hσ
  subst hσ
  clear hσ hu hr F
  obtain ⟨x, lo, m, rfl, rfl, rfl, h1, h2, h⟩ := h
  have m1 := Int.emod_nonneg (x / 5) (b := m) (by omega)
  have m2 := Int.emod_lt_of_pos (x / 5) (b := m) (by omega)
  have m3 := Int.emod_nonneg (x / 5) (b := lo + m + 2) (by omega)
  have m4 := Int.emod_lt_of_pos (x / 5) (b := lo + m + 2) (by omega)
  walk_at "w"
  all_goals walk_at "g1"
  all_goals exact Wk.go (h _ (by unfold OkI; omega))
theorem ok__law_mixed (T : Txt K mg) : OkF P w K mg base 1 "_law_mixed" ["_law_cell", "_law_k"] (sp__law_mixed K) := by
  obtain ⟨fd, F⟩ := T.f__law_mixed
  refine ⟨T.g__law_mixed, fd, fn_ok2 F sc__law_mixed (len2 rfl) (fun cdv A outer s H E hr => have hu := hr.units; ⟨_, ((lss_cons (ls_set 2 sc__law_mixed.nd (lop lo_mod (lop lo_mul (lop (ko_add K) (lop (ko_add K) (lop lo_mod (lv 0) lint) (lop lo_mul lint (lv 1))) lint) lint) lint))
      (lss_one (ls_ret (lop lo_mod (lop lo_mul (lv 2) (lop (ko_add K) (lop lo_div (lv 2) lint) lint)) lint))))), fun vs L Q EL σ h hσ => ?_⟩), F.bindsN (fun _ _ _ _ _ _ us hl => match us, hl with | [_, _], _ => rfl), F.kp⟩
  obtain ⟨x0, x1, rfl, h⟩ := h
  have hσ : ([some x0, some x1, none] : St) = σ := hσ
  subst hσ
  clear hσ hu hr F
  obtain ⟨x, k, rfl, rfl, h⟩ := h
  walk_at "w"
  walk_at "g1"
  exact Wk.go (h _ (by unfold RdM; omega))
theorem ok__law_slots (T : Txt K mg) (G__law_mixed : OkF P w K mg base 1 "_law_mixed" ["_law_cell", "_law_k"] (sp__law_mixed K)) : OkF P w K mg base 2 "_law_slots" ["_law_cell", "_law_files"] (sp__law_slots K) := by
  obtain ⟨fd, F⟩ := T.f__law_slots
  refine ⟨T.g__law_slots, fd, fn_ok2 F sc__law_slots (len2 rfl) (fun cdv A outer s H E hr => have hu := hr.units; ⟨_, ((lss_cons (ls_set 2 sc__law_slots.nd (llst la_nil))
      (lss_cons (ls_for PassesOwn.never rfl (li_range1 rfl T.n_range (la_cons lint la_nil)) (lg_name 3 sc__law_slots.nd) (lss_cons (ls_set 4 sc__law_slots.nd (lcallO G__law_mixed (hr.mono (by decide)) rfl (la_cons (lv 0) (la_cons (lop (ko_add K) lint (lv 3)) la_nil))))
      (lss_one (ls_set 2 sc__law_slots.nd (lop (ko_add K) (lv 2) (llst (la_cons (lix (kx_ix K hu) (llst (la_cons lint (la_cons lint (la_cons lint (la_cons lint (la_cons lint la_nil)))))) (lop lo_mod (lv 4) lint) (fun _ _ => rfl)) (la_cons (lop lo_mod (lop lo_div (lv 4) lint) (lop (ko_add K) (lv 1) lint)) (la_cons (lop lo_mod (lop lo_div (lv 4) lint) lint) (la_cons (lop lo_mod (lop lo_div (lv 4) lint) (lop (ko_add K) (lv 1) lint)) la_nil))))))))))
      (lss_one (ls_ret (lv 2)))))), fun vs L Q EL σ h hσ => ?_⟩), F.bindsN (fun _ _ _ _ _ _ us hl => match us, hl with | [_, _], _ => rfl), F.kp⟩
  obtain ⟨x0, x1, rfl, h⟩ := h
  have hσ : ([some x0, some x1, none, none, none] : St) = σ := hσ
  subst hσ
  clear hσ hu hr F
  clear G__law_mixed
  obtain ⟨x, F, rfl, rfl, h2, h⟩ := h
  walk_at "w"
  rename_i R0
  refine f_range0 (fun i σ' L' => ∃ r b c ms, σ' = [some (.int x), some (.int F), some (.ref r), b, c] ∧ ms.length = 4 * i ∧ (∀ y ∈ ms, OkI y) ∧ L' = [(r, HO.lst (ms.map V.int))] :: L) (Wk.go ⟨_, _, _, [], rfl, rfl, by simp, rfl⟩) ?_ ?_
  · rintro i σ' L' hi ⟨r, b, c, ms, rfl, h3, h4, rfl⟩
    have hi2 : i < 2 := hi
    walk_at "w"
    rename_i y hy A1 A2 A3
    have m1 := Int.emod_nonneg (y / 5) (b := F + 1) (by omega)
    have m2 := Int.emod_lt_of_pos (y / 5) (b := F + 1) (by omega)
    have m3 := Int.emod_nonneg (y / 300) (b := F + 1) (by omega)
    have m4 := Int.emod_lt_of_pos (y / 300) (b := F + 1) (by omega)
    have m5 : OkI (([1, 1, 0, 1, 2] : List Int).getD (y % 5).toNat 0) := getD_all (P := OkI) (by unfold OkI; omega) (by intro z hz; simp only [List.mem_cons, List.not_mem_nil, or_false] at hz; unfold OkI; omega) _
    refine Wk.by_ (by walk_at "lic") ⟨_, _, _, ms ++ [([1, 1, 0, 1, 2] : List Int).getD (y % 5).toNat 0, y / 5 % (F + 1), y / 100 % 3, y / 300 % (F + 1)], rfl, by simp [h3]; omega, fun z hz => ?_, rfl⟩
    rcases List.mem_append.mp hz with hz | hz
    · exact h4 z hz
    · simp only [List.mem_cons, List.not_mem_nil, or_false] at hz
      rcases hz with rfl | rfl | rfl | rfl
      · exact m5
      · unfold OkI; omega
      · unfold OkI; omega
      · unfold OkI; omega
  rintro σ' L' ⟨r, b, c, ms, rfl, h3, h4, rfl⟩
  walk_at "w"
  walk_at "g1"
  exact Wk.go (h _ _ ⟨h3, h4⟩)
theorem ok__law_head (T : Txt K mg) : OkF P w K mg base 1 "_law_head" ["_law_sizes", "_law_label"] (sp__law_head K) := by
  obtain ⟨fd, F⟩ := T.f__law_head
  refine ⟨T.g__law_head, fd, fn_ok2 F sc__law_head (len2 rfl) (fun cdv A outer s H E hr => have hu := hr.units; ⟨_, ((lss_cons (ls_set 2 sc__law_head.nd (lop (ko_add K) (lop (ko_add K) (llst (la_cons lint (la_cons (lv 1) la_nil))) (lcallTy (kk_list K) (by rfl) T.n_list (by decide +kernel) (la_cons (lv 0) la_nil))) (llst (la_cons lint (la_cons lint la_nil)))))
      (lss_one (ls_ret (lop (ko_add K) (lv 2) (llst (la_cons (lop lo_mod (lcallB (kk_sum K) (by rfl) T.n_sum (by decide +kernel) (la_cons (llc (vs := [3, 4]) rfl sc__law_head.nd (ki_enum K rfl T.n_enumerate (la_cons (lv 2) la_nil)) (blkOk_by (own := [("_law_k", 3), ("_law_number", 4)]) (N := ["_law_sizes", "_law_label", "_law_row", "_law_k", "_law_number"]) (sc := defScope s__law_head) (by decide +kernel)) (fun _ _ _ _ _ => (kg_tup K (n := 2) rfl (lgs_cons (lg_name 3 sc__law_head.nd) (lgs_cons (lg_name 4 sc__law_head.nd) lgs_nil)))) (fun _ _ _ _ _ => lts_nil) (fun _ _ _ _ _ => (lop lo_mul (lop (ko_add K) (lv 3) lint) (lv 4)))) la_nil)) lint) la_nil))))))), fun vs L Q EL σ h hσ => ?_⟩), F.bindsN (fun _ _ _ _ _ _ us hl => match us, hl with | [_, _], _ => rfl), F.kp⟩
  obtain ⟨x0, x1, rfl, h⟩ := h
  have hσ : ([some x0, some x1, none, none, none] : St) = σ := hσ
  subst hσ
  clear hσ hu hr F
  obtain ⟨z, F, E, B, f, rfl, rfl, h1, h⟩ := h
  walk_at "w"
  rename_i A1 A2 A3 A4 RW
  refine' a_intsE (fun i => ((i : Int) + 1) * ([1179, f] ++ [F, E, B] ++ [0, 0] : List Int).getD i 0) ?g1 IntsV.map rfl ?g2 ?g3 ?g4
  case g1 => walk_at "isl"
  case g2 => simp
  case g3 =>
    intro i x acc Dl p hi hz
    have hx : ([1179, f] ++ [F, E, B] ++ [0, 0] : List Int).getD i 0 = x := by rw [List.getD_eq_getElem?_getD, hi]; rfl
    have hi7 : i < 7 := (List.getElem?_eq_some_iff.mp hi).1
    walk_at "sl"
    rw [hx]
    walk_at "w"
  intro Dl
  walk_at "w"
  rename_i A5 A6
  change Wk (Q (V.ref A6)) ([(A6, HO.lst ((headM F E B f).map V.int))] :: _)
  exact Wk.by_ (by walk_at "lic") (h _)
theorem ok__law_block (T : Txt K mg) (G__law_pointer : OkF P w K mg base 1 "_law_pointer" ["_law_x", "_law_first", "_law_data"] (sp__law_pointer K)) (G__law_slots : OkF P w K mg base 2 "_law_slots" ["_law_cell", "_law_files"] (sp__law_slots K)) (G__law_head : OkF P w K mg base 1 "_law_head" ["_law_sizes", "_law_label"] (sp__law_head K)) (G__law_wild : OkF P w K mg base 1 "_law_wild" ["_law_number", "_law_many"] (sp__law_wild K)) (G__law_mixed : OkF P w K mg base 1 "_law_mixed" ["_law_cell", "_law_k"] (sp__law_mixed K)) : OkF P w K mg base 3 "_law_block" ["_law_b", "_law_cell", "_law_way", "_law_sizes"] (sp__law_block K) := by
  obtain ⟨fd, F⟩ := T.f__law_block
  refine ⟨T.g__law_block, fd, fn_ok2 F sc__law_block (len4 rfl) (fun cdv A outer s H E hr => have hu := hr.units; ⟨_, ((lss_cons (ls_asg (lv 3) (kg_tup K (n := 3) rfl (lgs_cons (lg_name 4 sc__law_block.nd) (lgs_cons (lg_name 5 sc__law_block.nd) (lgs_cons (lg_name 6 sc__law_block.nd) lgs_nil)))))
      (lss_cons (ls_set 7 sc__law_block.nd (lop (ko_add K) (lop (ko_add K) lint (lv 4)) (lv 5)))
      (lss_cons (ls_setLc (vs := [10]) 8 rfl sc__law_block.nd rfl rfl (sw_true rfl rfl rfl (by decide +kernel)) (li_range1 rfl T.n_range (la_cons lint la_nil)) (blkOk_by (own := [("_law_k", 10)]) (N := ["_law_b", "_law_cell", "_law_way", "_law_sizes", "_law_files", "_law_slots_here", "_law_data", "_law_first", "_law_xs", "_law_told", "_law_k", "_law_x"]) (sc := defScope s__law_block) (by decide +kernel)) (fun _ _ _ _ _ => (lg_name 10 sc__law_block.nd)) (fun _ _ _ _ _ => lts_nil) (fun _ _ _ _ _ => (lcallO G__law_mixed (hr.mono (by decide)) rfl (la_cons (lv 1) (la_cons (lop (ko_add K) (lop lo_mul lint (lv 0)) (lv 10)) la_nil)))))
      (lss_cons (ls_if (lt_cmp (ko_eq K hu) (lv 2) lint (nomark _)) (lss_one (ls_ret (llc (vs := [11]) rfl sc__law_block.nd (ki_list K (lv 8)) (blkOk_by (own := [("_law_x", 11)]) (N := ["_law_b", "_law_cell", "_law_way", "_law_sizes", "_law_files", "_law_slots_here", "_law_data", "_law_first", "_law_xs", "_law_told", "_law_k", "_law_x"]) (sc := defScope s__law_block) (by decide +kernel)) (fun _ _ _ _ _ => (lg_name 11 sc__law_block.nd)) (fun _ _ _ _ _ => lts_nil) (fun _ _ _ _ _ => (lcallO G__law_wild (hr.mono (by decide)) rfl (la_cons (lv 11) (la_cons (lop (ko_add K) (lv 7) (lv 6)) la_nil))))))) lss_nil)
      (lss_cons (ls_if (lt_cmp lo_lt (lv 0) lint (nomark _)) (lss_one (ls_ret (lcallO G__law_head (hr.mono (by decide)) rfl (la_cons (lv 3) (la_cons (lop (ko_add K) (lop lo_pow lint lint) lint) la_nil))))) lss_nil)
      (lss_cons (ls_if (LW.pt (lw_or (lt_cmp lo_lt (lv 0) lint (nomark _)) (lw_or1 (lt_cmp (ko_eq K hu) (lv 2) lint (nomark _))))) (lss_one (ls_ret (lop lo_mul (llst (la_cons lint la_nil)) lint))) lss_nil)
      (lss_cons (ls_if (lt_cmp lo_lt (lv 0) (lop (ko_add K) lint (lv 4)) (nomark _)) (lss_cons (ls_setLc (vs := [11]) 9 rfl sc__law_block.nd rfl rfl (sw_true rfl rfl rfl (by decide +kernel)) (ki_list K (lslice (ksl_ok K) (lv 8) (lo_some lint) lo_none)) (blkOk_by (own := [("_law_x", 11)]) (N := ["_law_b", "_law_cell", "_law_way", "_law_sizes", "_law_files", "_law_slots_here", "_law_data", "_law_first", "_law_xs", "_law_told", "_law_k", "_law_x"]) (sc := defScope s__law_block) (by decide +kernel)) (fun _ _ _ _ _ => (lg_name 11 sc__law_block.nd)) (fun _ _ _ _ _ => lts_nil) (fun _ _ _ _ _ => (lcallO G__law_pointer (hr.mono (by decide)) rfl (la_cons (lv 11) (la_cons (lv 7) (la_cons (lv 6) la_nil))))))
      (lss_one (ls_ret (lop (ko_add K) (llst (la_cons (lix (kx_ix K hu) (llst (la_cons lint (la_cons lint (la_cons lint (la_cons lint (la_cons lint (la_cons lint (la_cons lint (la_cons lint la_nil))))))))) (lop lo_mod (lix (kx_ix K hu) (lv 8) lint (fun _ _ => rfl)) lint) (fun _ _ => rfl)) (la_cons (lop lo_mod (lix (kx_ix K hu) (lv 8) lint (fun _ _ => rfl)) lint) (la_cons (lop lo_mod (lix (kx_ix K hu) (lv 8) lint (fun _ _ => rfl)) lint) (la_cons (lop lo_mod (lix (kx_ix K hu) (lv 8) lint (fun _ _ => rfl)) lint) la_nil))))) (lv 9))))) lss_nil)
      (lss_cons (ls_if (lt_cmp lo_lt (lv 0) (lv 7) (nomark _)) (lss_one (ls_ret (lcallO G__law_slots (hr.mono (by decide)) rfl (la_cons (lop (ko_add K) (lv 1) (lop lo_mul lint (lv 0))) (la_cons (lv 4) la_nil))))) lss_nil)
      (lss_one (ls_ret (llc (vs := [11]) rfl sc__law_block.nd (ki_list K (lv 8)) (blkOk_by (own := [("_law_x", 11)]) (N := ["_law_b", "_law_cell", "_law_way", "_law_sizes", "_law_files", "_law_slots_here", "_law_data", "_law_first", "_law_xs", "_law_told", "_law_k", "_law_x"]) (sc := defScope s__law_block) (by decide +kernel)) (fun _ _ _ _ _ => (lg_name 11 sc__law_block.nd)) (fun _ _ _ _ _ => lts_nil) (fun _ _ _ _ _ => (lcallO G__law_pointer (hr.mono (by decide)) rfl (la_cons (lv 11) (la_cons (lv 7) (la_cons (lv 6) la_nil))))))))))))))))), fun vs L Q EL σ h hσ => ?_⟩), F.bindsN (fun _ _ _ _ _ _ us hl => match us, hl with | [_, _, _, _], _ => rfl), F.kp⟩
  obtain ⟨x0, x1, x2, x3, rfl, h⟩ := h
  have hσ : ([some x0, some x1, some x2, some x3, none, none, none, none, none, none, none, none] : St) = σ := hσ
  subst hσ
  clear hσ hu hr F
  clear G__law_pointer G__law_slots G__law_head G__law_wild G__law_mixed
  obtain ⟨b, x, m, z, F, E, B, rfl, rfl, rfl, rfl, h1, h3, h⟩ := h
  walk_at "w"
  refine' a_intXR (P := RdM) rfl ?b1 ?b2
  case b1 =>
    intro i ms Dl hi hl hm
    walk_at "w"
    exact s_lcyIX (by assumption) hl hm (by omega) (by walk_at "lic")
  intro Dl ms hl hm
  have hg : ∀ k, RdM (ms.getD k 0) := fun k => getD_all (P := RdM) (by unfold RdM; omega) hm k
  have hcut : (cutG ms (some 4) none).length = 4 := by
    rw [cutG_lo (by omega), List.length_drop, hl]
    rfl
  have hcm : ∀ x ∈ cutG ms (some 4) none, RdM x := fun x hx => by
    rw [cutG_lo (by omega)] at hx
    exact hm x (List.mem_of_mem_drop hx)
  have hl8 : ms.length = 8 := hl
  walk_at "w"
  · refine' a_intX (P := OkI) ?p1 IntsV.map rfl ?q1 ?r1
    case p1 => walk_at "isl"
    case q1 =>
      intro i x ns Dl2 hx hl2 hm2
      have hx1 := hm x (List.mem_of_getElem? hx)
      unfold RdM at hx1
      have hxi := (List.getElem?_eq_some_iff.mp hx).1
      walk_at "w"
      exact s_lcyIX (by assumption) hl2 hm2 (by omega) (by walk_at "lic")
    case r1 =>
      intro Dl2 ns hl2 hm2
      walk_at "g1"
      exact Wk.by_ (by walk_at "lic") (h _ _ ⟨by omega, hm2⟩)
  · walk_at "g1"
    exact Wk.by_ (by walk_at "lic") (h _ _ (okr_head h3 (by omega) (by omega)))
  · walk_at "g1"
    exact Wk.by_ (by walk_at "lic") (h _ _ okr_zero)
  · walk_at "g1"
    exact Wk.by_ (by walk_at "lic") (h _ _ okr_zero)
  · refine' a_intX (P := OkI) ?p2 IntsV.map rfl ?q2 ?r2
    case p2 => walk_at "isl"
    case q2 =>
      intro i x ns Dl2 hx hl2 hm2
      have hx1 := hcm x (List.mem_of_getElem? hx)
      unfold RdM at hx1
      have hxi := (List.getElem?_eq_some_iff.mp hx).1
      walk_at "w"
      exact s_lcyIX (by assumption) hl2 hm2 (by omega) (by walk_at "lic")
    case r2 =>
      intro Dl2 ns hl2 hm2
      walk_at "w"
      walk_at "g1"
      have k0 : OkI (([0, 1, 1, 2, 1, 2, 3, 1] : List Int).getD (ms.getD 0 0 % 8).toNat 0) := getD_all (P := OkI) (by unfold OkI; omega) (by intro z hz; simp only [List.mem_cons, List.not_mem_nil, or_false] at hz; unfold OkI; omega) _
      refine Wk.by_ (by walk_at "lic") (h _ _ ⟨by rw [List.length_append, hl2, hcut]; rfl, fun z hz => ?_⟩)
      rcases List.mem_append.mp hz with hz | hz
      · simp only [List.mem_cons, List.not_mem_nil, or_false] at hz
        rcases hz with rfl | rfl | rfl | rfl
        · exact k0
        · unfold OkI; omega
        · unfold OkI; omega
        · unfold OkI; omega
      · exact hm2 z hz
  · walk_at "g1"
    exact Wk.by_ (by walk_at "lic") (h _ _ (by assumption))
  · refine' a_intX (P := OkI) ?p3 IntsV.map rfl ?q3 ?r3
    case p3 => walk_at "isl"
    case q3 =>
      intro i x ns Dl2 hx hl2 hm2
      have hx1 := hm x (List.mem_of_getElem? hx)
      unfold RdM at hx1
      have hxi := (List.getElem?_eq_some_iff.mp hx).1
      walk_at "w"
      exact s_lcyIX (by assumption) hl2 hm2 (by omega) (by walk_at "lic")
    case r3 =>
      intro Dl2 ns hl2 hm2
      walk_at "g1"
      exact Wk.by_ (by walk_at "lic") (h _ _ ⟨by omega, hm2⟩)
theorem ok__law_cell_at (T : Txt K mg) : OkF P w K mg base 1 "_law_cell_at" ["_law_script", "_law_k"] (sp__law_cell_at K) := by
  obtain ⟨fd, F⟩ := T.f__law_cell_at
  refine ⟨T.g__law_cell_at, fd, fn_ok2 F sc__law_cell_at (len2 rfl) (fun cdv A outer s H E hr => have hu := hr.units; ⟨_, ((lss_cons (ls_if (lt_cmp lo_lt (lv 1) (lcallB (kk_len K) (by rfl) T.n_len (by decide +kernel) (la_cons (lv 0) la_nil)) (nomark _)) (lss_one (ls_ret (lix (kx_ix K hu) (lv 0) (lv 1) (fun _ _ => rfl)))) lss_nil)
      (lss_one (ls_ret lint)))), fun vs L Q EL σ h hσ => ?_⟩), F.bindsN (fun _ _ _ _ _ _ us hl => match us, hl with | [_, _], _ => rfl), F.kp⟩
  obtain ⟨x0, x1, rfl, h⟩ := h
  have hσ : ([some x0, some x1] : St) = σ := hσ
  subst hσ
  clear hσ hu hr F
  obtain ⟨c, p, ns, k, rfl, rfl, hS, hc, hk, h⟩ := h
  walk_at "w"
  · refine Wk.go (Wk.go ?_)
    have e : cellM ns k = ns.getD k.toNat 0 := if_pos (by assumption)
    rw [← e]
    exact h
  · have e : cellM ns k = 0 := if_neg (by assumption)
    rw [← e]
    exact Wk.go h
theorem ok__law_by_digits (T : Txt K mg) (G__law_wild : OkF P w K mg base 1 "_law_wild" ["_law_number", "_law_many"] (sp__law_wild K)) (G__law_mixed : OkF P w K mg base 1 "_law_mixed" ["_law_cell", "_law_k"] (sp__law_mixed K)) (G__law_cell_at : OkF P w K mg base 1 "_law_cell_at" ["_law_script", "_law_k"] (sp__law_cell_at K)) : OkF P w K mg base 2 "_law_by_digits" ["_law_script", "_law_many"] (sp__law_by_digits K) := by
  obtain ⟨fd, F⟩ := T.f__law_by_digits
  refine ⟨T.g__law_by_digits, fd, fn_ok2 F sc__law_by_digits (len2 rfl) (fun cdv A outer s H E hr => have hu := hr.units; ⟨_, ((lss_cons (ls_set 2 sc__law_by_digits.nd (lop lo_mul lint (lop lo_pow lint lint)))
      (lss_cons (ls_set 3 sc__law_by_digits.nd (llst la_nil))
      (lss_cons (ls_for PassesOwn.never rfl (li_range1 rfl T.n_range (la_cons (lv 1) la_nil)) (lg_name 4 sc__law_by_digits.nd) (lss_cons (ls_set 5 sc__law_by_digits.nd (lcallO G__law_cell_at (hr.mono (by decide)) rfl (la_cons (lv 0) (la_cons (lop (ko_add K) lint (lv 4)) la_nil))))
      (lss_cons (ls_set 6 sc__law_by_digits.nd (llst la_nil))
      (lss_cons (ls_for PassesOwn.never rfl (li_range1 rfl T.n_range (la_cons lint la_nil)) (lg_name 7 sc__law_by_digits.nd) (lss_cons (ls_if (lt_cmp lo_gt (lv 5) lint (nomark _)) (lss_one (ls_expr (kbm K PySem.F.plainAttrs_list PySem.F.slot_list_append PySem.F.type_list_append lm_append (lv 6) (la_cons (lcallO G__law_wild (hr.mono (by decide)) rfl (la_cons (lop lo_mod (lv 5) (lv 2)) (la_cons (lv 1) la_nil))) la_nil)))) (lss_one (ls_expr (kbm K PySem.F.plainAttrs_list PySem.F.slot_list_append PySem.F.type_list_append lm_append (lv 6) (la_cons (lcallO G__law_wild (hr.mono (by decide)) rfl (la_cons (lcallO G__law_mixed (hr.mono (by decide)) rfl (la_cons (lop (ko_add K) (lcallO G__law_cell_at (hr.mono (by decide)) rfl (la_cons (lv 0) (la_cons lint la_nil))) (lop lo_mul lint (lv 4))) (la_cons (lv 7) la_nil))) (la_cons (lv 1) la_nil))) la_nil)))))
      (lss_one (ls_set 5 sc__law_by_digits.nd (lop lo_div (lv 5) (lv 2))))))
      (lss_one (ls_expr (kbm K PySem.F.plainAttrs_list PySem.F.slot_list_append PySem.F.type_list_append lm_append (lv 3) (la_cons (lv 6) la_nil))))))))
      (lss_one (ls_ret (lv 3))))))), fun vs L Q EL σ h hσ => ?_⟩), F.bindsN (fun _ _ _ _ _ _ us hl => match us, hl with | [_, _], _ => rfl), F.kp⟩
  obtain ⟨x0, x1, rfl, h⟩ := h
  have hσ : ([some x0, some x1, none, none, none, none, none, none] : St) = σ := hσ
  subst hσ
  clear hσ hu hr F
  clear G__law_wild G__law_mixed G__law_cell_at
  obtain ⟨c, p, ns, m, rfl, rfl, h1, h2, h3, h⟩ := h
  walk_at "w"
  rename_i VV
  refine' fr_4 (k0 := 4) (k1 := 5) (k2 := 6) (k3 := 7) (fun i L' => ∃ as rows, as.length = i ∧ rows.length = i ∧ (∀ r ∈ rows, OkR r) ∧ L' = volC VV as rows :: L) ?i0 ?is ?id
  case i0 => exact Wk.by_ (L' := volC VV [] [] :: L) (by walk_at "lic") ⟨[], [], rfl, rfl, by simp, rfl⟩
  case is =>
    rintro i a0 a1 a2 a3 L' hi ⟨as, rows, hl, hl2, hr, rfl⟩
    walk_at "sl"
    walk_at "w"
    rename_i RW
    refine f_range0 (fun j σ' L' => ∃ x b ms, σ' = [some (.ref p), some (.int m), some (.int (12 * 10000000000000000000000000000000000000000)), some (.ref VV), some (.int i), some (.int x), some (.ref RW), b] ∧ ms.length = j ∧ (∀ y ∈ ms, OkI y) ∧ L' = [(RW, HO.lst (ms.map V.int))] :: volC VV as rows :: L) (Wk.go ⟨_, _, [], rfl, rfl, by simp, rfl⟩) ?_ ?_
    · rintro j σ' L' hj ⟨x, b, ms, rfl, hm1, hm2, rfl⟩
      have hj8 : j < 8 := hj
      walk_at "w"
      · rename_i y hy
        exact Wk.go ⟨_, _, ms ++ [y], rfl, by rw [List.length_append, hm1]; rfl, fun z hz => by
          rcases List.mem_append.mp hz with hz | hz
          · exact hm2 z hz
          · rw [List.mem_singleton.mp hz]; exact hy, by rw [List.map_append]; rfl⟩
      · rename_i _ _ y hy
        exact Wk.go ⟨_, _, ms ++ [y], rfl, by rw [List.length_append, hm1]; rfl, fun z hz => by
          rcases List.mem_append.mp hz with hz | hz
          · exact hm2 z hz
          · rw [List.mem_singleton.mp hz]; exact hy, by rw [List.map_append]; rfl⟩
    rintro σ' L' ⟨x, b, ms, rfl, hm1, hm2, rfl⟩
    walk_at "w"
    exact Wk.go ⟨rfl, as ++ [RW], rows ++ [ms], by rw [List.length_append, hl]; rfl, by rw [List.length_append, hl2]; rfl, fun z hz => by
      rcases List.mem_append.mp hz with hz | hz
      · exact hr z hz
      · rw [List.mem_singleton.mp hz]; exact ⟨hm1, hm2⟩, rfl⟩
  rintro a0 a1 a2 a3 L' ⟨as, rows, hl, hl2, hr, rfl⟩
  walk_at "sl"
  walk_at "w"
  walk_at "g1"
  exact Wk.go (h _ _ _ hl hl2 hr)
theorem ok__law_volume (T : Txt K mg) (G__law_wild : OkF P w K mg base 1 "_law_wild" ["_law_number", "_law_many"] (sp__law_wild K)) (G__law_block : OkF P w K mg base 3 "_law_block" ["_law_b", "_law_cell", "_law_way", "_law_sizes"] (sp__law_block K)) (G__law_cell_at : OkF P w K mg base 1 "_law_cell_at" ["_law_script", "_law_k"] (sp__law_cell_at K)) (G__law_by_digits : OkF P w K mg base 2 "_law_by_digits" ["_law_script", "_law_many"] (sp__law_by_digits K)) : OkF P w K mg base 4 "_law_volume" ["_law_script", "_law_sizes"] (sp__law_volume K) := by
  obtain ⟨fd, F⟩ := T.f__law_volume
  refine ⟨T.g__law_volume, fd, fn_ok2 F sc__law_volume (len2 rfl) (fun cdv A outer s H E hr => have hu := hr.units; ⟨_, ((lss_cons (ls_set 2 sc__law_volume.nd (lcallO G__law_cell_at (hr.mono (by decide)) rfl (la_cons (lv 0) (la_cons lint la_nil))))
      (lss_cons (ls_set 3 sc__law_volume.nd (lop (ko_add K) (lop (ko_add K) (lop (ko_add K) lint (lix (kx_ix K hu) (lv 1) lint (fun _ _ => rfl))) (lix (kx_ix K hu) (lv 1) lint (fun _ _ => rfl))) (lix (kx_ix K hu) (lv 1) lint (fun _ _ => rfl))))
      (lss_cons (ls_if (lt_cmp (ko_eq K hu) (lop lo_mod (lop lo_div (lcallO G__law_cell_at (hr.mono (by decide)) rfl (la_cons (lv 0) (la_cons lint la_nil))) lint) lint) lint (nomark _)) (lss_one (ls_ret (lcallO G__law_by_digits (hr.mono (by decide)) rfl (la_cons (lv 0) (la_cons (lv 3) la_nil))))) lss_nil)
      (lss_cons (ls_setLc (vs := [6]) 4 rfl sc__law_volume.nd rfl rfl (sw_true rfl rfl rfl (by decide +kernel)) (li_range1 rfl T.n_range (la_cons (lv 3) la_nil)) (blkOk_by (own := [("_law_b", 6)]) (N := ["_law_script", "_law_sizes", "_law_cell", "_law_many", "_law_rows", "_law_number", "_law_b"]) (sc := defScope s__law_volume) (by decide +kernel)) (fun _ _ _ _ _ => (lg_name 6 sc__law_volume.nd)) (fun _ _ _ _ _ => lts_nil) (fun _ _ _ _ _ => (lcallO G__law_block (hr.mono (by decide)) rfl (la_cons (lv 6) (la_cons (lop lo_div (lv 2) lint) (la_cons (lop lo_mod (lv 2) lint) (la_cons (lv 1) la_nil)))))))
      (lss_cons (ls_for PassesOwn.never rfl (ki_list K (lslice (ksl_ok K) (lv 0) (lo_some lint) (lo_some (lop (ko_add K) lint (lop lo_mod (lop lo_div (lv 2) lint) lint))))) (lg_name 5 sc__law_volume.nd) (lss_one (ls_asg (lcallO G__law_wild (hr.mono (by decide)) rfl (la_cons (lop lo_div (lv 5) (lop lo_mul lint (lv 3))) (la_cons (lv 3) la_nil))) (lg_sub (lix (kx_ix K hu) (lv 4) (lop lo_mod (lv 5) (lv 3)) (fun _ _ => rfl)) (lop lo_mod (lop lo_div (lv 5) (lv 3)) lint) (lset_ok hu)))))
      (lss_one (ls_ret (lv 4))))))))), fun vs L Q EL σ h hσ => ?_⟩), F.bindsN (fun _ _ _ _ _ _ us hl => match us, hl with | [_, _], _ => rfl), F.kp⟩
  obtain ⟨x0, x1, rfl, h⟩ := h
  have hσ : ([some x0, some x1, none, none, none, none, none] : St) = σ := hσ
  subst hσ
  clear hσ hu hr F
  clear G__law_wild G__law_block G__law_cell_at G__law_by_digits
  obtain ⟨c, p, ns, z, F, E, B, rfl, rfl, h1, h2, h3, h4, h5, h⟩ := h
  walk_at "w"
  · rename_i VV as rows hl hl2 hr
    walk_at "g1"
    exact Wk.go (h _ _ _ (by omega) (by omega) (fun r hr' => (hr r hr').1) (fun r hr' x hx => (hr r hr').2 x hx))
  refine' a_rowsX (P := OkR) rfl ?b1 ?b2
  case b1 =>
    intro i as rows Dl hi hl hl2 hr
    walk_at "w"
    exact s_lcyX (by walk_at "at") IntsV.map (by assumption) hl hl2 hr (by omega) (by walk_at "lics")
  intro Dl as rows hl hl2 hr
  have h8 : ∀ r ∈ rows, r.length = 8 := fun r hr' => (hr r hr').1
  have hbd : Bnd rows := fun r hr' x hx => (hr r hr').2 x hx
  have hlr : as.length = rows.length := by omega
  have hnr : (rows.length : Int) = 10 + F + E + B := by omega
  clear hl hl2 hr
  walk_at "w"
  rename_i S
  refine' fi_1 (k0 := 5) (fun i L' => ∃ rows, L' = [(S, HO.lst (List.map V.int (cutG ns (some 2) (some (2 + cellM ns 1 / 4 % 31)))))] :: volC Dl as rows :: L ∧ as.length = rows.length ∧ (rows.length : Int) = 10 + F + E + B ∧ (∀ r ∈ rows, r.length = 8) ∧ Bnd rows) IntsV.map ?n0 ?nG ?ns ?nd
  case n0 => exact Wk.go ⟨_, rfl, hlr, hnr, h8, hbd⟩
  case nG => rintro i L' ⟨rows, rfl, _⟩; exact IsL.at_ At.hd1
  case ns =>
    clear hlr hnr h8 hbd
    rintro i x a0 L' hi ⟨rows, rfl, hlr, hnr, h8, hbd⟩
    have m3 := Int.emod_nonneg x (b := 10 + F + E + B) (by omega)
    have m4 := Int.emod_lt_of_pos x (b := 10 + F + E + B) (by omega)
    walk_at "sl"
    walk_at "w"
    all_goals walk_at "g1"
    all_goals exact Wk.by_ (L' := [(S, HO.lst (List.map V.int (cutG ns (some 2) (some (2 + cellM ns 1 / 4 % 31)))))] :: volC Dl _ _ :: L) (by walk_at "lic") ⟨rfl, _, rfl, by (simp only [putAt_len]; omega), by (simp only [putAt_len]; omega), by walk_at "a8", by walk_at "bd"⟩
  clear hlr hnr h8 hbd
  rintro a0 L' ⟨rows, rfl, hlr, hnr, h8, hbd⟩
  walk_at "sl"
  walk_at "w"
  walk_at "g1"
  exact Wk.by_ (L' := volC Dl as rows :: L) (by walk_at "lic") (h _ _ _ hlr hnr h8 hbd)
theorem ok_Layout___init__ (T : Txt K mg) {f : Addr} (FF : ∃ fd, FunD K "__init__" "Layout.__init__" (defArgs s_Layout___init__) (defBody s_Layout___init__) (defScope s_Layout___init__) ([] : List V) [] f fd) : OkM P w K mg base 1 f ["self", "files", "slots", "data"] (sp_Layout___init__ K) := by
  obtain ⟨fd, F⟩ := FF
  refine ⟨fd, fn_ok2 F sc_Layout___init__ (len4 rfl) (fun cdv A outer s H E hr => have hu := hr.units; ⟨_, ((lss_cons (ls_if (LW.pt (lw_or (lt_cmp lo_lt (lv 1) lint (nomark _)) (lw_or (lt_cmp lo_gt (lv 1) lint (nomark _)) (lw_or (lt_cmp lo_lt (lv 2) lint (nomark _)) (lw_or (lt_cmp lo_gt (lv 2) lint (nomark _)) (lw_or (lt_cmp lo_lt (lv 3) lint (nomark _)) (lw_or1 (lt_cmp lo_gt (lv 3) lint (nomark _))))))))) (lss_one ls_never) lss_nil)
      (lss_cons (ks_fld K (lv 0) (lv 1))
      (lss_cons (ks_fld K (lv 0) (lv 2))
      (lss_one (ks_fld K (lv 0) (lv 3))))))), fun vs L Q EL σ h hσ => ?_⟩), F.bindsN (fun _ _ _ _ _ _ us hl => match us, hl with | [_, _, _, _], _ => rfl), F.kp⟩
  obtain ⟨x0, x1, x2, x3, rfl, h⟩ := h
  have hσ : ([some x0, some x1, some x2, some x3] : St) = σ := hσ
  subst hσ
  clear hσ hu hr F
  have t_cl_Layout := T.cl_Layout
  have t_na_Layout_files := T.na_Layout_files
  have t_na_Layout_slots := T.na_Layout_slots
  have t_na_Layout_data := T.na_Layout_data
  obtain ⟨p, dx, F, E, B, L1, rfl, rfl, rfl, rfl, ⟨h1, h2, h3, h4, h5, h6⟩, rfl, h⟩ := h
  walk_at "w"
  exact Wk.go (Wk.go h)
theorem ok_law {fd : FuncData} (F : FunD K "law" "law" (defArgs s_law) (defBody s_law) (defScope s_law) [] [] (He.ga K "law") fd) (T : Txt K mg) (G_faults : OkF P w K mg base 8 "faults" ["layout", "volume"] (sp_faults K)) (G_mend : OkF P w K mg base 8 "mend" ["layout", "volume"] (sp_mend K)) (G_wrong : OkF P w K mg base 7 "wrong" ["layout", "volume", "clause"] (sp_wrong K)) (G__law_words : OkF P w K mg base 1 "_law_words" ["_law_found"] (sp__law_words K)) (G__law_volume : OkF P w K mg base 4 "_law_volume" ["_law_script", "_law_sizes"] (sp__law_volume K)) (G__law_cell_at : OkF P w K mg base 1 "_law_cell_at" ["_law_script", "_law_k"] (sp__law_cell_at K)) (G_Layout___init__ : OkM P w K mg base 1 (He.ma K (He.ga K "Layout") "__init__") ["self", "files", "slots", "data"] (sp_Layout___init__ K)) : FnOk P w K mg base CX0 9 (He.ga K "law") fd ["_law_script"] (UpP (sp_law K)) := by
  refine fn_ok2 F sc_law (len1 rfl) (fun cdv A outer s H E hr => have hu := hr.units; ⟨_, ((lss_cons (ls_set 1 sc_law.nd (lcallO G__law_cell_at (hr.mono (by decide)) rfl (la_cons (lv 0) (la_cons lint la_nil))))
      (lss_cons (ls_set 2 sc_law.nd (ltup (la_cons (lop (ko_add K) lint (lop lo_mod (lop lo_div (lv 1) lint) lint)) (la_cons (lop (ko_add K) lint (lop lo_mod (lop lo_div (lv 1) lint) lint)) (la_cons (lop (ko_add K) lint (lop lo_mod (lop lo_div (lv 1) lint) lint)) la_nil)))))
      (lss_cons (ls_set 3 sc_law.nd (lmakeO T.mk_Layout T.gc_Layout G_Layout___init__ (hr.mono (by decide)) rfl (la_cons (lix (kx_ix K hu) (lv 2) lint (fun _ _ => rfl)) (la_cons (lix (kx_ix K hu) (lv 2) lint (fun _ _ => rfl)) (la_cons (lix (kx_ix K hu) (lv 2) lint (fun _ _ => rfl)) la_nil)))))
      (lss_cons (ls_set 4 sc_law.nd (lcallO G__law_volume (hr.mono (by decide)) rfl (la_cons (lv 0) (la_cons (lv 2) la_nil))))
      (lss_cons (ls_join (ls_if (lt_cmp (ko_eq K hu) (lop lo_mod (lv 1) lint) lint (nomark _)) (lss_one (ls_set 4 sc_law.nd (lix (kx_ix K hu) (lcallO G_mend (hr.mono (by decide)) rfl (la_cons (lv 3) (la_cons (lv 4) la_nil))) lint (fun _ _ => rfl)))) lss_nil))
      (lss_cons (ls_setLc (vs := [11]) 5 rfl sc_law.nd rfl rfl (sw_true rfl rfl rfl (by decide +kernel)) (ki_list K (lv 4)) (blkOk_by (own := [("_law_row", 11)]) (N := ["_law_script", "_law_cell", "_law_sizes", "_law_layout", "_law_rows", "_law_kept", "_law_broken", "_law_mended", "_law_changes", "_law_due", "_law_again", "_law_row", "_law_clause"]) (sc := defScope s_law) (by decide +kernel)) (fun _ _ _ _ _ => (lg_name 11 sc_law.nd)) (fun _ _ _ _ _ => lts_nil) (fun _ _ _ _ _ => (lcallTy (kk_list K) (by rfl) T.n_list (by decide +kernel) (la_cons (lv 11) la_nil))))
      (lss_cons (ls_set 6 sc_law.nd (lcallO G_faults (hr.mono (by decide)) rfl (la_cons (lv 3) (la_cons (lv 4) la_nil))))
      (lss_cons (ls_asg (lcallO G_mend (hr.mono (by decide)) rfl (la_cons (lv 3) (la_cons (lv 4) la_nil))) (kg_tup K (n := 2) rfl (lgs_cons (lg_name 7 sc_law.nd) (lgs_cons (lg_name 8 sc_law.nd) lgs_nil))))
      (lss_cons (ls_if (LW.pt (lw_or (lt_cmp (ko_ne K hu) (lv 4) (lv 5) (nomark _)) (lw_or1 (lt_not (kt_truth K (lcallO G__law_words (hr.mono (by decide)) rfl (la_cons (lv 6) la_nil))))))) (lss_one (ls_ret lbl)) lss_nil)
      (lss_cons (ls_if (lt_cmp (ko_ne K hu) (lv 6) (llc (vs := [12]) rfl sc_law.nd (ki_tup K (lglob (v := .ref (He.ga _ "CLAUSES")) rfl T.gc_CLAUSES rfl)) (blkOk_by (own := [("_law_clause", 12)]) (N := ["_law_script", "_law_cell", "_law_sizes", "_law_layout", "_law_rows", "_law_kept", "_law_broken", "_law_mended", "_law_changes", "_law_due", "_law_again", "_law_row", "_law_clause"]) (sc := defScope s_law) (by decide +kernel)) (fun _ _ _ _ _ => (lg_name 12 sc_law.nd)) (fun _ _ _ _ _ => (lts_one (lt_cmp (ko_ne K hu) (lcallO G_wrong (hr.mono (by decide)) rfl (la_cons (lv 3) (la_cons (lv 4) (la_cons (lv 12) la_nil)))) (llst la_nil) (nomark _)))) (fun _ _ _ _ _ => (lv 12))) (nomark _)) (lss_one (ls_ret lbl)) lss_nil)
      (lss_cons (ls_join (ls_if (LW.pt (lw_or (lt_cmp (ko_ne K hu) (lcmp (ko_eq K hu) (lv 6) (llst la_nil) (nomark _)) (lcmp (ko_eq K hu) (lv 8) (llst la_nil) (nomark _)) (nomark _)) (lw_or1 (LW.pt (lw_and (lt_cmp (ko_eq K hu) (lv 6) (llst la_nil) (nomark _)) (lw_and1 (lt_cmp (ko_ne K hu) (lv 7) (lv 4) (nomark _)))))))) (lss_one (ls_ret lbl)) lss_nil))
      (lss_cons (ls_join (ls_if (LW.pt (lw_and (lt_cmp (ko_ne K hu) (lv 6) (llst la_nil) (nomark _)) (lw_and1 (lt_cmp (ko_ne K hu) (lix (kx_ix K hu) (lix (kx_ix K hu) (lv 8) lint (fun _ _ => rfl)) lint (fun _ _ => rfl)) (lix (kx_ix K hu) (lv 6) lint (fun _ _ => rfl)) (nomark _))))) (lss_one (ls_ret lbl)) lss_nil))
      (lss_cons (ls_setLc (vs := [11]) 9 rfl sc_law.nd rfl rfl (sw_true rfl rfl rfl (by decide +kernel)) (ki_list K (lv 7)) (blkOk_by (own := [("_law_row", 11)]) (N := ["_law_script", "_law_cell", "_law_sizes", "_law_layout", "_law_rows", "_law_kept", "_law_broken", "_law_mended", "_law_changes", "_law_due", "_law_again", "_law_row", "_law_clause"]) (sc := defScope s_law) (by decide +kernel)) (fun _ _ _ _ _ => (lg_name 11 sc_law.nd)) (fun _ _ _ _ _ => lts_nil) (fun _ _ _ _ _ => (lcallTy (kk_list K) (by rfl) T.n_list (by decide +kernel) (la_cons (lv 11) la_nil))))
      (lss_cons (ls_set 10 sc_law.nd (lcallO G_mend (hr.mono (by decide)) rfl (la_cons (lv 3) (la_cons (lv 7) la_nil))))
      (lss_cons (ls_if (LW.pt (lw_or (lt_cmp (ko_ne K hu) (lv 10) (ltup (la_cons (lv 9) (la_cons (llst la_nil) la_nil))) (nomark _)) (lw_or1 (lt_cmp (ko_ne K hu) (lv 7) (lv 9) (nomark _))))) (lss_one (ls_ret lbl)) lss_nil)
      (lss_cons (ls_expr (kbm0 K PySem.F.plainAttrs_list PySem.F.slot_list_clear PySem.F.type_list_clear lm_clear (lix (kx_ix K hu) (lix (kx_ix K hu) (lv 10) lint (fun _ _ => rfl)) lint (fun _ _ => rfl))))
      (lss_cons (ls_expr (kbm0 K PySem.F.plainAttrs_list PySem.F.slot_list_pop PySem.F.type_list_pop lm_pop (lix (kx_ix K hu) (lv 10) lint (fun _ _ => rfl))))
      (lss_cons (ls_expr (kbm K PySem.F.plainAttrs_list PySem.F.slot_list_append PySem.F.type_list_append lm_append (lix (kx_ix K hu) (lv 10) lint (fun _ _ => rfl)) (la_cons lint la_nil)))
      (lss_one (ls_ret (land (lcmp (ko_eq K hu) (lv 7) (lv 9) (nomark _)) (land (lcmp (ko_eq K hu) (lcallO G_mend (hr.mono (by decide)) rfl (la_cons (lv 3) (la_cons (lv 7) la_nil))) (ltup (la_cons (lv 9) (la_cons (llst la_nil) la_nil))) (nomark _)) (lone (lcmp (ko_eq K hu) (lcallO G_faults (hr.mono (by decide)) rfl (la_cons (lv 3) (la_cons (lv 7) la_nil))) (llst la_nil) (nomark _)))))))))))))))))))))))))), fun vs L Q EL σ h hσ => ?_⟩)
  obtain ⟨x0, rfl, h⟩ := h
  have hσ : ([some x0, none, none, none, none, none, none, none, none, none, none, none, none] : St) = σ := hσ
  subst hσ
  clear hσ hu hr
  clear G_faults G_mend G_wrong G__law_words G__law_volume G__law_cell_at G_Layout___init__
  have t_cl_Layout := T.cl_Layout
  have t_na_Layout_files := T.na_Layout_files
  have t_na_Layout_slots := T.na_Layout_slots
  have t_na_Layout_data := T.na_Layout_data
  have t_tp_CLAUSES := T.tp_CLAUSES
  obtain ⟨c, p, ns, rfl, hS, hc, hlen, h⟩ := h
  walk_at "w"
  rename_i Z q dx VV as rows hl hn h8 hbd
  generalize hF : 2 + cellM ns 0 / 4 % 6 = F at *
  generalize hE : 1 + cellM ns 0 / 24 % 3 = E at *
  generalize hB : 2 + cellM ns 0 / 72 % 8 = B at *
  have hb' : 2 ≤ F ∧ F ≤ 12 ∧ 1 ≤ E ∧ E ≤ 8 ∧ 2 ≤ B ∧ B ≤ 40 := by omega
  have hb : inB F E B := hb'
  refine' sjv_1 (k0 := 4) (fun a L' => ∃ p as rows, a = some (V.ref p) ∧ as.length = rows.length ∧ (rows.length : Int) = 10 + F + E + B ∧ (∀ r ∈ rows, r.length = 8) ∧ Bnd rows ∧ L' = volC p as rows :: layC K q dx F E B :: L) ?j1 ?j2
  case j1 =>
    walk_at "w"
    · rename_i t p2 r as2 c2 hl2 hc2
      have S := mend_snd hb ⟨hn, h8⟩ 11 (by omega)
      walk_at "g1"
      exact Wk.by_ (L' := volC p2 as2 (mendN F E B rows 11) :: layC K q dx F E B :: L) (by walk_at "lic") ⟨_, rfl, p2, as2, mendN F E B rows 11, rfl, by have := S.sh.len; omega, S.sh.len, S.sh.row, bnd_of S.sh (S.bd (by omega)), rfl⟩
    · walk_at "g1"
      exact Wk.by_ (L' := volC VV as rows :: layC K q dx F E B :: L) (by walk_at "lic") ⟨_, rfl, VV, as, rows, rfl, hl, hn, h8, hbd, rfl⟩
  clear hl hn h8 hbd
  rintro a0 L' ⟨VV, as, rows, rfl, hl, hn, h8, hbd, rfl⟩
  have hfw := flt_words (F := F) (E := E) (B := B) (R := rows)
  have hSh : Sh (10 + F + E + B) rows := ⟨hn, h8⟩
  have hSn := mend_snd hb hSh 11 (by omega)
  walk_at "sl"
  walk_at "w"
  intro Dl _
  refine a_clauses (F := F) (E := E) (B := B) (rows := rows) (by walk_at "ist") rfl ?_ ?_
  · intro i acc hi11 hz hw
    walk_at "w"
    · rename_i hnil
      rw [if_neg (show ¬ badB F E B rows i = true by unfold badB; rw [decide_eq_true hnil]; decide), List.append_nil]
      exact s_lcn (by walk_at "lic") ⟨rfl, rfl⟩
    · rename_i hnil
      rw [if_pos (show badB F E B rows i = true by unfold badB; rw [decide_eq_false hnil]; decide)]
      exact s_lcy hz (by walk_at "lic") ⟨rfl, rfl⟩
  refine Wk.go (s_ne_dp (DpL.strs (ws := fltN F E B rows) (by walk_at "isl")) (DpL.strs (ws := fltN F E B rows) (by walk_at "isl")) (nb_dS flt_ok) (nb_dS flt_ok) dS_iff ?_)
  walk_at "w"
  obtain ⟨q1, q2, q3⟩ := snd_rest hSn
  have hnM := hSn.sh.len
  have h8M := hSn.sh.row
  have hbM := bnd_of hSn.sh (hSn.bd (by omega))
  have qe : PyData.tuple [dR (mendN F E B (mendN F E B rows 11) 11), .list ((chgN F E B (mendN F E B rows 11) 11).map dC)] = .tuple [dR (mendN F E B rows 11), .list []] := by rw [q2, q3]; rfl
  have fc := flt_chg (F := F) (E := E) (B := B) (R := rows)
  have fok := flt_ok (F := F) (E := E) (B := B) (R := rows)
  have cok := chg_ok (F := F) (E := E) (B := B) (R := rows) 11 (by omega)
  clear hSn hfw
  generalize mendN F E B rows 11 = M at *
  generalize chgN F E B rows 11 = CH at *
  generalize fltN F E B rows = FL at *
  refine' s_joinI ?k1 ?k2
  case k1 =>
    rcases fc with ⟨c1, c2, c3⟩ | ⟨w1, t1, ws1, ts1, c1, c2⟩
    · walk_at "w"
      walk_at "g1"
      refine' Wk.by_ ?l1 ⟨rfl, rfl⟩
      walk_at "lic"
    · have c3 : ¬ FL = [] := by rw [c1]; simp
      have c4 : ¬ CH = [] := by rw [c2]; simp
      walk_at "w"
      walk_at "g1"
      refine' Wk.by_ ?l2 ⟨rfl, rfl⟩
      walk_at "lic"
  walk_at "w"
  refine' s_joinI ?k3 ?k4
  case k3 =>
    rcases fc with ⟨c1, c2, c3⟩ | ⟨w1, t1, ws1, ts1, c1, c2⟩
    · walk_at "w"
      walk_at "g1"
      refine' Wk.by_ ?l3 ⟨rfl, rfl⟩
      walk_at "lic"
    · have c3 : ¬ FL = [] := by rw [c1]; simp
      have c4 : ¬ CH = [] := by rw [c2]; simp
      walk_at "w"
      · rw [c1]
        refine s_ix_l (v := .str w1) (by walk_at "isl") (atI_nat (j := 0) rfl) ?_
        walk_at "w"
        all_goals walk_at "g1"
        all_goals (refine' Wk.by_ ?l4 ⟨rfl, rfl⟩; (case l4 => walk_at "lic"))
  walk_at "w"
  rw [q3]
  obtain ⟨C9, hC9⟩ := ldC_nil ‹LdC _ _ (chgN F E B M 11)› q2
  subst hC9
  refine s_ne_f (DpL.pair (by walk_at "ist") (DpL.vol (rows := M) (by walk_at "mem") (by walk_at "ln")) (DpL.nil (IsL.at_ (At.mem (c := (_, HO.lst []) :: C9) (by walk_at "mem") List.mem_cons_self)))) (DpL.pair (by walk_at "ist") (DpL.vol (rows := M) (by walk_at "mem") (by walk_at "ln")) (DpL.nil (by walk_at "isl"))) (nb_pair (es := []) (by simp)) (nb_pair (es := []) (by simp)) rfl ?_
  walk_at "w"
  refine s_clear0 (by walk_at "rp") (by walk_at "ln") (by omega) ?_
  walk_at "w"
  refine s_popV (by walk_at "rp") (by omega) (fun _ => ?_)
  walk_at "w"
  refine s_app0 (C := C9) (by walk_at "rp") ?_
  walk_at "w"
  rw [q3]
  obtain ⟨C8, hC8⟩ := ldC_nil ‹LdC _ _ (chgN F E B M 11)› q2
  subst hC8
  refine s_eq_t (DpL.pair (by walk_at "ist") (DpL.vol (rows := M) (by walk_at "mem") (by walk_at "ln")) (DpL.nil (IsL.at_ (At.mem (c := (_, HO.lst []) :: C8) (by walk_at "mem") List.mem_cons_self)))) (DpL.pair (by walk_at "ist") (DpL.vol (rows := M) (by walk_at "mem") (by walk_at "ln")) (DpL.nil (by walk_at "isl"))) (nb_pair (es := []) (by simp)) (nb_pair (es := []) (by simp)) rfl ?_
  walk_at "w"
  walk_at "g1"
  exact Wk.go (h _)
end
def d_wrong_sizes : He.DefD := ⟨("wrong_sizes", none), "wrong_sizes", "wrong_sizes", defArgs s_wrong_sizes, defBody s_wrong_sizes, defScope s_wrong_sizes, ([] : List He.Dv), []⟩
def d_Layout_record_at : He.DefD := ⟨("Layout", some "record_at"), "record_at", "Layout.record_at", defArgs s_Layout_record_at, defBody s_Layout_record_at, defScope s_Layout_record_at, ([] : List He.Dv), []⟩
def d_wrong_kinds : He.DefD := ⟨("wrong_kinds", none), "wrong_kinds", "wrong_kinds", defArgs s_wrong_kinds, defBody s_wrong_kinds, defScope s_wrong_kinds, ([] : List He.Dv), []⟩
def d_check_of : He.DefD := ⟨("check_of", none), "check_of", "check_of", defArgs s_check_of, defBody s_check_of, defScope s_check_of, ([] : List He.Dv), []⟩
def d_journal_check : He.DefD := ⟨("journal_check", none), "journal_check", "journal_check", defArgs s_journal_check, defBody s_journal_check, defScope s_journal_check, ([] : List He.Dv), []⟩
def d_Layout_many : He.DefD := ⟨("Layout", some "many"), "many", "Layout.many", defArgs s_Layout_many, defBody s_Layout_many, defScope s_Layout_many, ([] : List He.Dv), []⟩
def d_are_homes : He.DefD := ⟨("are_homes", none), "are_homes", "are_homes", defArgs s_are_homes, defBody s_are_homes, defScope s_are_homes, ([] : List He.Dv), []⟩
def d_Layout_is_home : He.DefD := ⟨("Layout", some "is_home"), "is_home", "Layout.is_home", defArgs s_Layout_is_home, defBody s_Layout_is_home, defScope s_Layout_is_home, ([] : List He.Dv), []⟩
def d_is_whole : He.DefD := ⟨("is_whole", none), "is_whole", "is_whole", defArgs s_is_whole, defBody s_is_whole, defScope s_is_whole, ([] : List He.Dv), []⟩
def d_wrong_journal : He.DefD := ⟨("wrong_journal", none), "wrong_journal", "wrong_journal", defArgs s_wrong_journal, defBody s_wrong_journal, defScope s_wrong_journal, ([] : List He.Dv), []⟩
def d_head_row : He.DefD := ⟨("head_row", none), "head_row", "head_row", defArgs s_head_row, defBody s_head_row, defScope s_head_row, ([] : List He.Dv), []⟩
def d_due_head : He.DefD := ⟨("due_head", none), "due_head", "due_head", defArgs s_due_head, defBody s_due_head, defScope s_due_head, ([] : List He.Dv), []⟩
def d_wrong_heads : He.DefD := ⟨("wrong_heads", none), "wrong_heads", "wrong_heads", defArgs s_wrong_heads, defBody s_wrong_heads, defScope s_wrong_heads, ([] : List He.Dv), []⟩
def d_wrong_bounds : He.DefD := ⟨("wrong_bounds", none), "wrong_bounds", "wrong_bounds", defArgs s_wrong_bounds, defBody s_wrong_bounds, defScope s_wrong_bounds, ([] : List He.Dv), []⟩
def d_wrong_early : He.DefD := ⟨("wrong_early", none), "wrong_early", "wrong_early", defArgs s_wrong_early, defBody s_wrong_early, defScope s_wrong_early, ([] : List He.Dv), []⟩
def d_map_row : He.DefD := ⟨("map_row", none), "map_row", "map_row", defArgs s_map_row, defBody s_map_row, defScope s_map_row, ([] : List He.Dv), []⟩
def d_Layout_data_at : He.DefD := ⟨("Layout", some "data_at"), "data_at", "Layout.data_at", defArgs s_Layout_data_at, defBody s_Layout_data_at, defScope s_Layout_data_at, ([] : List He.Dv), []⟩
def d_is_file : He.DefD := ⟨("is_file", none), "is_file", "is_file", defArgs s_is_file, defBody s_is_file, defScope s_is_file, ([] : List He.Dv), []⟩
def d_walk_pointer : He.DefD := ⟨("walk_pointer", none), "walk_pointer", "walk_pointer", defArgs s_walk_pointer, defBody s_walk_pointer, defScope s_walk_pointer, ([] : List He.Dv), []⟩
def d_Layout_is_data : He.DefD := ⟨("Layout", some "is_data"), "is_data", "Layout.is_data", defArgs s_Layout_is_data, defBody s_Layout_is_data, defScope s_Layout_is_data, ([] : List He.Dv), []⟩
def d_walk_file : He.DefD := ⟨("walk_file", none), "walk_file", "walk_file", defArgs s_walk_file, defBody s_walk_file, defScope s_walk_file, ([] : List He.Dv), []⟩
def d_walk_files : He.DefD := ⟨("walk_files", none), "walk_files", "walk_files", defArgs s_walk_files, defBody s_walk_files, defScope s_walk_files, ([] : List He.Dv), []⟩
def d_wrong_map : He.DefD := ⟨("wrong_map", none), "wrong_map", "wrong_map", defArgs s_wrong_map, defBody s_wrong_map, defScope s_wrong_map, ([] : List He.Dv), []⟩
def d_is_folder : He.DefD := ⟨("is_folder", none), "is_folder", "is_folder", defArgs s_is_folder, defBody s_is_folder, defScope s_is_folder, ([] : List He.Dv), []⟩
def d_in_use : He.DefD := ⟨("in_use", none), "in_use", "in_use", defArgs s_in_use, defBody s_in_use, defScope s_in_use, ([] : List He.Dv), []⟩
def d_is_right : He.DefD := ⟨("is_right", none), "is_right", "is_right", defArgs s_is_right, defBody s_is_right, defScope s_is_right, ([] : List He.Dv), []⟩
def d_slot_at : He.DefD := ⟨("slot_at", none), "slot_at", "slot_at", defArgs s_slot_at, defBody s_slot_at, defScope s_slot_at, ([] : List He.Dv), []⟩
def d_Layout_names_at : He.DefD := ⟨("Layout", some "names_at"), "names_at", "Layout.names_at", defArgs s_Layout_names_at, defBody s_Layout_names_at, defScope s_Layout_names_at, ([] : List He.Dv), []⟩
def d_slot : He.DefD := ⟨("slot", none), "slot", "slot", defArgs s_slot, defBody s_slot, defScope s_slot, ([] : List He.Dv), []⟩
def d_right_slots : He.DefD := ⟨("right_slots", none), "right_slots", "right_slots", defArgs s_right_slots, defBody s_right_slots, defScope s_right_slots, ([] : List He.Dv), []⟩
def d_named : He.DefD := ⟨("named", none), "named", "named", defArgs s_named, defBody s_named, defScope s_named, ([] : List He.Dv), []⟩
def d_wrong_counts : He.DefD := ⟨("wrong_counts", none), "wrong_counts", "wrong_counts", defArgs s_wrong_counts, defBody s_wrong_counts, defScope s_wrong_counts, ([] : List He.Dv), []⟩
def d_wrong_found : He.DefD := ⟨("wrong_found", none), "wrong_found", "wrong_found", defArgs s_wrong_found, defBody s_wrong_found, defScope s_wrong_found, ([] : List He.Dv), []⟩
def d_ring_of : He.DefD := ⟨("ring_of", none), "ring_of", "ring_of", defArgs s_ring_of, defBody s_ring_of, defScope s_ring_of, ([] : List He.Dv), []⟩
def d_wrong_rings : He.DefD := ⟨("wrong_rings", none), "wrong_rings", "wrong_rings", defArgs s_wrong_rings, defBody s_wrong_rings, defScope s_wrong_rings, ([] : List He.Dv), []⟩
def d_wrong_names : He.DefD := ⟨("wrong_names", none), "wrong_names", "wrong_names", defArgs s_wrong_names, defBody s_wrong_names, defScope s_wrong_names, ([] : List He.Dv), []⟩
def d_wrong_pieces : He.DefD := ⟨("wrong_pieces", none), "wrong_pieces", "wrong_pieces", defArgs s_wrong_pieces, defBody s_wrong_pieces, defScope s_wrong_pieces, ([] : List He.Dv), []⟩
def d_is_number : He.DefD := ⟨("is_number", none), "is_number", "is_number", defArgs s_is_number, defBody s_is_number, defScope s_is_number, ([] : List He.Dv), []⟩
def d_is_row : He.DefD := ⟨("is_row", none), "is_row", "is_row", defArgs s_is_row, defBody s_is_row, defScope s_is_row, ([] : List He.Dv), []⟩
def d_check_form : He.DefD := ⟨("check_form", none), "check_form", "check_form", defArgs s_check_form, defBody s_check_form, defScope s_check_form, ([] : List He.Dv), []⟩
def d_wrong : He.DefD := ⟨("wrong", none), "wrong", "wrong", defArgs s_wrong, defBody s_wrong, defScope s_wrong, ([] : List He.Dv), []⟩
def d_faults : He.DefD := ⟨("faults", none), "faults", "faults", defArgs s_faults, defBody s_faults, defScope s_faults, ([] : List He.Dv), []⟩
def d_mend : He.DefD := ⟨("mend", none), "mend", "mend", defArgs s_mend, defBody s_mend, defScope s_mend, ([] : List He.Dv), []⟩
def d__law_words : He.DefD := ⟨("_law_words", none), "_law_words", "_law_words", defArgs s__law_words, defBody s__law_words, defScope s__law_words, ([] : List He.Dv), []⟩
def d__law_wild : He.DefD := ⟨("_law_wild", none), "_law_wild", "_law_wild", defArgs s__law_wild, defBody s__law_wild, defScope s__law_wild, ([] : List He.Dv), []⟩
def d__law_pointer : He.DefD := ⟨("_law_pointer", none), "_law_pointer", "_law_pointer", defArgs s__law_pointer, defBody s__law_pointer, defScope s__law_pointer, ([] : List He.Dv), []⟩
def d__law_mixed : He.DefD := ⟨("_law_mixed", none), "_law_mixed", "_law_mixed", defArgs s__law_mixed, defBody s__law_mixed, defScope s__law_mixed, ([] : List He.Dv), []⟩
def d__law_slots : He.DefD := ⟨("_law_slots", none), "_law_slots", "_law_slots", defArgs s__law_slots, defBody s__law_slots, defScope s__law_slots, ([] : List He.Dv), []⟩
def d__law_head : He.DefD := ⟨("_law_head", none), "_law_head", "_law_head", defArgs s__law_head, defBody s__law_head, defScope s__law_head, ([] : List He.Dv), []⟩
def d__law_block : He.DefD := ⟨("_law_block", none), "_law_block", "_law_block", defArgs s__law_block, defBody s__law_block, defScope s__law_block, ([] : List He.Dv), []⟩
def d__law_cell_at : He.DefD := ⟨("_law_cell_at", none), "_law_cell_at", "_law_cell_at", defArgs s__law_cell_at, defBody s__law_cell_at, defScope s__law_cell_at, ([] : List He.Dv), []⟩
def d__law_by_digits : He.DefD := ⟨("_law_by_digits", none), "_law_by_digits", "_law_by_digits", defArgs s__law_by_digits, defBody s__law_by_digits, defScope s__law_by_digits, ([] : List He.Dv), []⟩
def d__law_volume : He.DefD := ⟨("_law_volume", none), "_law_volume", "_law_volume", defArgs s__law_volume, defBody s__law_volume, defScope s__law_volume, ([] : List He.Dv), []⟩
def d_law : He.DefD := ⟨("law", none), "law", "law", defArgs s_law, defBody s_law, defScope s_law, ([] : List He.Dv), []⟩
def d_Layout___init__ : He.DefD := ⟨("Layout", some "__init__"), "__init__", "Layout.__init__", defArgs s_Layout___init__, defBody s_Layout___init__, defScope s_Layout___init__, ([] : List He.Dv), []⟩
def fn : List He.DefD := [d_wrong_sizes, d_Layout_record_at, d_wrong_kinds, d_check_of, d_journal_check, d_Layout_many, d_are_homes, d_Layout_is_home, d_is_whole, d_wrong_journal, d_head_row, d_due_head, d_wrong_heads, d_wrong_bounds, d_wrong_early, d_map_row, d_Layout_data_at, d_is_file, d_walk_pointer, d_Layout_is_data, d_walk_file, d_walk_files, d_wrong_map, d_is_folder, d_in_use, d_is_right, d_slot_at, d_Layout_names_at, d_slot, d_right_slots, d_named, d_wrong_counts, d_wrong_found, d_ring_of, d_wrong_rings, d_wrong_names, d_wrong_pieces, d_is_number, d_is_row, d_check_form, d_wrong, d_faults, d_mend, d__law_words, d__law_wild, d__law_pointer, d__law_mixed, d__law_slots, d__law_head, d__law_block, d__law_cell_at, d__law_by_digits, d__law_volume, d_law, d_Layout___init__]
def fa : List He.Fa := [.int "RECORDS" (10), .glo "wrong_sizes", .free "range", .int "MOST" (88), .cls "Layout", .meth "Layout" "record_at", .noat "Layout" "files", .glo "wrong_kinds", .glo "check_of", .free "len", .int "PRIME" (1000003), .glo "journal_check", .noat "Layout" "slots", .noat "Layout" "data", .int "MAP" (2), .meth "Layout" "many", .glo "are_homes", .meth "Layout" "is_home", .glo "is_whole", .int "ROWS" (4), .int "ROOM" (6), .int "JOURNAL" (3), .glo "wrong_journal", .int "WIDE" (8), .glo "head_row", .int "MARK" (1179), .glo "due_head", .glo "wrong_heads", .glo "wrong_bounds", .int "TOP" (999999999999), .glo "wrong_early", .glo "map_row", .free "divmod", .int "BITS" (20), .meth "Layout" "data_at", .glo "is_file", .glo "walk_pointer", .meth "Layout" "is_data", .glo "walk_file", .glo "walk_files", .glo "wrong_map", .free "list", .glo "is_folder", .glo "in_use", .glo "is_right", .glo "slot_at", .int "WIDTH" (4), .meth "Layout" "names_at", .glo "slot", .free "tuple", .glo "right_slots", .glo "named", .glo "wrong_counts", .glo "wrong_found", .free "int", .glo "ring_of", .glo "wrong_rings", .free "sorted", .free "min", .glo "wrong_names", .glo "wrong_pieces", .glo "is_number", .free "abs", .free "isinstance", .free "bool", .int "BEYOND" (10000000000000000000000000000000000000000), .glo "is_row", .free "all", .glo "check_form", .glo "wrong", .glo "faults", .glo "CLAUSES", .glo "mend", .glo "_law_words", .glo "_law_wild", .glo "_law_pointer", .glo "_law_mixed", .glo "_law_slots", .glo "_law_head", .free "sum", .free "enumerate", .glo "_law_block", .glo "_law_cell_at", .glo "_law_by_digits", .glo "_law_volume", .glo "law", .glo "Layout", .mkr "Layout"]
abbrev R : PySem.W.OpenRow := PySem.W.OpenLaw.row PySem.Challenge.rw_volumemend_k82_whole_mended_again
def ex (K : PySem.W.Frag) : Bool := He.tupB K "CLAUSES" [.str "bounds", .str "head", .str "journal", .str "kind", .str "size", .str "piece", .str "name", .str "ring", .str "found", .str "count", .str "map"]
abbrev hk : PySem.W.Hook := He.hookX 6 fa fn [] [] ex
def ob (s : PySem.W.SharedT) : He.AlX := He.obsX 6 fa fn [] [] ex (HandSHeadRun.getT s)
theorem ob_eq (s : PySem.W.SharedT) : ob s = hk.obs s.abs := He.obsX_eq (HandSHeadRun.getT_eq s)
def loose : List Str := (["MARK", "PRIME", "check_of", "head_row", "VolumeError", "NoLayout", "NoVolume", "TOP", "MOST", "WIDE", "BEYOND", "MAP", "JOURNAL", "ROWS", "RECORDS", "Layout", "is_number", "is_row", "check_form", "ROOM"] : List Str) ++ (["journal_check", "are_homes", "is_whole", "wrong_bounds", "due_head", "wrong_heads", "wrong_journal", "wrong_kinds", "wrong_sizes", "BITS", "map_row", "WIDTH", "slot_at", "slot", "is_folder", "is_file", "in_use", "walk_pointer", "walk_file", "walk_files"] : List Str) ++ (["wrong_pieces", "wrong_map", "is_right", "right_slots", "wrong_names", "ring_of", "wrong_rings", "named", "wrong_found", "wrong_counts", "CLAUSES", "wrong_early", "wrong", "mend", "faults", "_law_cell_at", "_law_mixed", "_law_head", "_law_pointer", "_law_wild"] : List Str) ++ (["_law_slots", "_law_block", "_law_by_digits", "_law_volume", "_law_words"] : List Str)
set_option maxHeartbeats 0 in
theorem run (w : World) : HandSHeadRun.RunEq R (PySem.W.view R.prog [75]) hk ob 20000 loose w := by
  intro os
  kernel_rfl
theorem txt {K : PySem.W.Frag} {h : Heap} {mg : Str → Option Value} (X : K.In h) (G : h.Ns mainGlobals mg) (c : He.SaysD fa fn K) (x : ex K = true) : Txt K mg where
  i_RECORDS := He.int_ok X G (c.fact 0 (f := .int "RECORDS" (10)) rfl)
  f_wrong_sizes := c.def_ 0 (d := d_wrong_sizes) rfl
  g_wrong_sizes := He.glo_ok X G (c.fact 1 (f := .glo "wrong_sizes") rfl)
  f_Layout_record_at := c.def_ 1 (d := d_Layout_record_at) rfl
  n_range := He.free_ok X G (c.fact 2 (f := .free "range") rfl)
  i_MOST := He.int_ok X G (c.fact 3 (f := .int "MOST" (88)) rfl)
  cl_Layout := He.cls_ok (c.fact 4 (f := .cls "Layout") rfl)
  me_Layout_record_at := He.meth_ok (c.fact 5 (f := .meth "Layout" "record_at") rfl)
  na_Layout_files := He.noat_ok (c.fact 6 (f := .noat "Layout" "files") rfl)
  f_wrong_kinds := c.def_ 2 (d := d_wrong_kinds) rfl
  g_wrong_kinds := He.glo_ok X G (c.fact 7 (f := .glo "wrong_kinds") rfl)
  f_check_of := c.def_ 3 (d := d_check_of) rfl
  g_check_of := He.glo_ok X G (c.fact 8 (f := .glo "check_of") rfl)
  n_len := He.free_ok X G (c.fact 9 (f := .free "len") rfl)
  i_PRIME := He.int_ok X G (c.fact 10 (f := .int "PRIME" (1000003)) rfl)
  f_journal_check := c.def_ 4 (d := d_journal_check) rfl
  g_journal_check := He.glo_ok X G (c.fact 11 (f := .glo "journal_check") rfl)
  na_Layout_slots := He.noat_ok (c.fact 12 (f := .noat "Layout" "slots") rfl)
  na_Layout_data := He.noat_ok (c.fact 13 (f := .noat "Layout" "data") rfl)
  f_Layout_many := c.def_ 5 (d := d_Layout_many) rfl
  i_MAP := He.int_ok X G (c.fact 14 (f := .int "MAP" (2)) rfl)
  me_Layout_many := He.meth_ok (c.fact 15 (f := .meth "Layout" "many") rfl)
  f_are_homes := c.def_ 6 (d := d_are_homes) rfl
  g_are_homes := He.glo_ok X G (c.fact 16 (f := .glo "are_homes") rfl)
  f_Layout_is_home := c.def_ 7 (d := d_Layout_is_home) rfl
  me_Layout_is_home := He.meth_ok (c.fact 17 (f := .meth "Layout" "is_home") rfl)
  f_is_whole := c.def_ 8 (d := d_is_whole) rfl
  g_is_whole := He.glo_ok X G (c.fact 18 (f := .glo "is_whole") rfl)
  i_ROWS := He.int_ok X G (c.fact 19 (f := .int "ROWS" (4)) rfl)
  i_ROOM := He.int_ok X G (c.fact 20 (f := .int "ROOM" (6)) rfl)
  i_JOURNAL := He.int_ok X G (c.fact 21 (f := .int "JOURNAL" (3)) rfl)
  f_wrong_journal := c.def_ 9 (d := d_wrong_journal) rfl
  g_wrong_journal := He.glo_ok X G (c.fact 22 (f := .glo "wrong_journal") rfl)
  i_WIDE := He.int_ok X G (c.fact 23 (f := .int "WIDE" (8)) rfl)
  f_head_row := c.def_ 10 (d := d_head_row) rfl
  g_head_row := He.glo_ok X G (c.fact 24 (f := .glo "head_row") rfl)
  i_MARK := He.int_ok X G (c.fact 25 (f := .int "MARK" (1179)) rfl)
  f_due_head := c.def_ 11 (d := d_due_head) rfl
  g_due_head := He.glo_ok X G (c.fact 26 (f := .glo "due_head") rfl)
  f_wrong_heads := c.def_ 12 (d := d_wrong_heads) rfl
  g_wrong_heads := He.glo_ok X G (c.fact 27 (f := .glo "wrong_heads") rfl)
  f_wrong_bounds := c.def_ 13 (d := d_wrong_bounds) rfl
  g_wrong_bounds := He.glo_ok X G (c.fact 28 (f := .glo "wrong_bounds") rfl)
  i_TOP := He.int_ok X G (c.fact 29 (f := .int "TOP" (999999999999)) rfl)
  f_wrong_early := c.def_ 14 (d := d_wrong_early) rfl
  g_wrong_early := He.glo_ok X G (c.fact 30 (f := .glo "wrong_early") rfl)
  f_map_row := c.def_ 15 (d := d_map_row) rfl
  g_map_row := He.glo_ok X G (c.fact 31 (f := .glo "map_row") rfl)
  f_Layout_data_at := c.def_ 16 (d := d_Layout_data_at) rfl
  n_divmod := He.free_ok X G (c.fact 32 (f := .free "divmod") rfl)
  i_BITS := He.int_ok X G (c.fact 33 (f := .int "BITS" (20)) rfl)
  me_Layout_data_at := He.meth_ok (c.fact 34 (f := .meth "Layout" "data_at") rfl)
  f_is_file := c.def_ 17 (d := d_is_file) rfl
  g_is_file := He.glo_ok X G (c.fact 35 (f := .glo "is_file") rfl)
  f_walk_pointer := c.def_ 18 (d := d_walk_pointer) rfl
  g_walk_pointer := He.glo_ok X G (c.fact 36 (f := .glo "walk_pointer") rfl)
  f_Layout_is_data := c.def_ 19 (d := d_Layout_is_data) rfl
  me_Layout_is_data := He.meth_ok (c.fact 37 (f := .meth "Layout" "is_data") rfl)
  f_walk_file := c.def_ 20 (d := d_walk_file) rfl
  g_walk_file := He.glo_ok X G (c.fact 38 (f := .glo "walk_file") rfl)
  f_walk_files := c.def_ 21 (d := d_walk_files) rfl
  g_walk_files := He.glo_ok X G (c.fact 39 (f := .glo "walk_files") rfl)
  f_wrong_map := c.def_ 22 (d := d_wrong_map) rfl
  g_wrong_map := He.glo_ok X G (c.fact 40 (f := .glo "wrong_map") rfl)
  n_list := He.free_ok X G (c.fact 41 (f := .free "list") rfl)
  f_is_folder := c.def_ 23 (d := d_is_folder) rfl
  g_is_folder := He.glo_ok X G (c.fact 42 (f := .glo "is_folder") rfl)
  f_in_use := c.def_ 24 (d := d_in_use) rfl
  g_in_use := He.glo_ok X G (c.fact 43 (f := .glo "in_use") rfl)
  f_is_right := c.def_ 25 (d := d_is_right) rfl
  g_is_right := He.glo_ok X G (c.fact 44 (f := .glo "is_right") rfl)
  f_slot_at := c.def_ 26 (d := d_slot_at) rfl
  g_slot_at := He.glo_ok X G (c.fact 45 (f := .glo "slot_at") rfl)
  f_Layout_names_at := c.def_ 27 (d := d_Layout_names_at) rfl
  i_WIDTH := He.int_ok X G (c.fact 46 (f := .int "WIDTH" (4)) rfl)
  me_Layout_names_at := He.meth_ok (c.fact 47 (f := .meth "Layout" "names_at") rfl)
  f_slot := c.def_ 28 (d := d_slot) rfl
  g_slot := He.glo_ok X G (c.fact 48 (f := .glo "slot") rfl)
  n_tuple := He.free_ok X G (c.fact 49 (f := .free "tuple") rfl)
  f_right_slots := c.def_ 29 (d := d_right_slots) rfl
  g_right_slots := He.glo_ok X G (c.fact 50 (f := .glo "right_slots") rfl)
  f_named := c.def_ 30 (d := d_named) rfl
  g_named := He.glo_ok X G (c.fact 51 (f := .glo "named") rfl)
  f_wrong_counts := c.def_ 31 (d := d_wrong_counts) rfl
  g_wrong_counts := He.glo_ok X G (c.fact 52 (f := .glo "wrong_counts") rfl)
  f_wrong_found := c.def_ 32 (d := d_wrong_found) rfl
  g_wrong_found := He.glo_ok X G (c.fact 53 (f := .glo "wrong_found") rfl)
  n_int := He.free_ok X G (c.fact 54 (f := .free "int") rfl)
  f_ring_of := c.def_ 33 (d := d_ring_of) rfl
  g_ring_of := He.glo_ok X G (c.fact 55 (f := .glo "ring_of") rfl)
  f_wrong_rings := c.def_ 34 (d := d_wrong_rings) rfl
  g_wrong_rings := He.glo_ok X G (c.fact 56 (f := .glo "wrong_rings") rfl)
  n_sorted := He.free_ok X G (c.fact 57 (f := .free "sorted") rfl)
  n_min := He.free_ok X G (c.fact 58 (f := .free "min") rfl)
  f_wrong_names := c.def_ 35 (d := d_wrong_names) rfl
  g_wrong_names := He.glo_ok X G (c.fact 59 (f := .glo "wrong_names") rfl)
  f_wrong_pieces := c.def_ 36 (d := d_wrong_pieces) rfl
  g_wrong_pieces := He.glo_ok X G (c.fact 60 (f := .glo "wrong_pieces") rfl)
  f_is_number := c.def_ 37 (d := d_is_number) rfl
  g_is_number := He.glo_ok X G (c.fact 61 (f := .glo "is_number") rfl)
  n_abs := He.free_ok X G (c.fact 62 (f := .free "abs") rfl)
  n_isinstance := He.free_ok X G (c.fact 63 (f := .free "isinstance") rfl)
  n_bool := He.free_ok X G (c.fact 64 (f := .free "bool") rfl)
  i_BEYOND := He.int_ok X G (c.fact 65 (f := .int "BEYOND" (10000000000000000000000000000000000000000)) rfl)
  f_is_row := c.def_ 38 (d := d_is_row) rfl
  g_is_row := He.glo_ok X G (c.fact 66 (f := .glo "is_row") rfl)
  n_all := He.free_ok X G (c.fact 67 (f := .free "all") rfl)
  f_check_form := c.def_ 39 (d := d_check_form) rfl
  g_check_form := He.glo_ok X G (c.fact 68 (f := .glo "check_form") rfl)
  f_wrong := c.def_ 40 (d := d_wrong) rfl
  g_wrong := He.glo_ok X G (c.fact 69 (f := .glo "wrong") rfl)
  f_faults := c.def_ 41 (d := d_faults) rfl
  g_faults := He.glo_ok X G (c.fact 70 (f := .glo "faults") rfl)
  gc_CLAUSES := He.glo_ok X G (c.fact 71 (f := .glo "CLAUSES") rfl)
  tp_CLAUSES := by
    have z := x
    unfold ex at z
    try simp only [Bool.and_eq_true, decide_eq_true_eq] at z
    exact z
  f_mend := c.def_ 42 (d := d_mend) rfl
  g_mend := He.glo_ok X G (c.fact 72 (f := .glo "mend") rfl)
  f__law_words := c.def_ 43 (d := d__law_words) rfl
  g__law_words := He.glo_ok X G (c.fact 73 (f := .glo "_law_words") rfl)
  f__law_wild := c.def_ 44 (d := d__law_wild) rfl
  g__law_wild := He.glo_ok X G (c.fact 74 (f := .glo "_law_wild") rfl)
  f__law_pointer := c.def_ 45 (d := d__law_pointer) rfl
  g__law_pointer := He.glo_ok X G (c.fact 75 (f := .glo "_law_pointer") rfl)
  f__law_mixed := c.def_ 46 (d := d__law_mixed) rfl
  g__law_mixed := He.glo_ok X G (c.fact 76 (f := .glo "_law_mixed") rfl)
  f__law_slots := c.def_ 47 (d := d__law_slots) rfl
  g__law_slots := He.glo_ok X G (c.fact 77 (f := .glo "_law_slots") rfl)
  f__law_head := c.def_ 48 (d := d__law_head) rfl
  g__law_head := He.glo_ok X G (c.fact 78 (f := .glo "_law_head") rfl)
  n_sum := He.free_ok X G (c.fact 79 (f := .free "sum") rfl)
  n_enumerate := He.free_ok X G (c.fact 80 (f := .free "enumerate") rfl)
  f__law_block := c.def_ 49 (d := d__law_block) rfl
  g__law_block := He.glo_ok X G (c.fact 81 (f := .glo "_law_block") rfl)
  f__law_cell_at := c.def_ 50 (d := d__law_cell_at) rfl
  g__law_cell_at := He.glo_ok X G (c.fact 82 (f := .glo "_law_cell_at") rfl)
  f__law_by_digits := c.def_ 51 (d := d__law_by_digits) rfl
  g__law_by_digits := He.glo_ok X G (c.fact 83 (f := .glo "_law_by_digits") rfl)
  f__law_volume := c.def_ 52 (d := d__law_volume) rfl
  g__law_volume := He.glo_ok X G (c.fact 84 (f := .glo "_law_volume") rfl)
  f_law := c.def_ 53 (d := d_law) rfl
  g_law := He.glo_ok X G (c.fact 85 (f := .glo "law") rfl)
  f_Layout___init__ := c.def_ 54 (d := d_Layout___init__) rfl
  gc_Layout := He.glo_ok X G (c.fact 86 (f := .glo "Layout") rfl)
  mk_Layout := He.mkr_ok (c.fact 87 (f := .mkr "Layout") rfl)
theorem facts {P : Program} {w : World} {K : PySem.W.Frag} {h : Heap} {mg : Str → Option Value} {f : Addr} (X : K.In h) (G : h.Ns mainGlobals mg) (hfa : mg ("law" : Str) = some (.ref f)) (c : He.SaysD fa fn K) (x : ex K = true) :
    ∃ fd : FuncData, (∀ (s : Shared) (v : Value), BindsTo s fd ⟨[v], []⟩ [("_law_script", v)]) ∧ ∀ base : Heap, K.In base → base.Ns mainGlobals mg → FnOk P w K mg base CX0 9 f fd ["_law_script"] (UpP (sp_law K)) := by
  have T := txt X G c x
  have e := hfa.symm.trans T.g_law
  cases e
  obtain ⟨fd, F⟩ := T.f_law
  have b := FunD.bindsA (ps := ["_law_script"]) F fun _ _ _ _ _ _ us hl => match us, hl with | [_], _ => rfl
  refine ⟨fd, fun s v => b s [v] rfl, fun base hb hn => ?_⟩
  have G_Layout_record_at : OkM P w K mg base 1 (He.ma K (He.ga K "Layout") "record_at") ["self", "number"] (sp_Layout_record_at K) := ok_Layout_record_at T T.f_Layout_record_at
  have G_wrong_sizes : OkF P w K mg base 2 "wrong_sizes" ["layout", "volume"] (sp_wrong_sizes K) := ok_wrong_sizes T G_Layout_record_at
  have G_wrong_kinds : OkF P w K mg base 2 "wrong_kinds" ["layout", "volume"] (sp_wrong_kinds K) := ok_wrong_kinds T G_Layout_record_at
  have G_check_of : OkF P w K mg base 1 "check_of" ["numbers"] (sp_check_of K) := ok_check_of T
  have G_journal_check : OkF P w K mg base 2 "journal_check" ["count", "targets", "rows"] (sp_journal_check K) := ok_journal_check T G_check_of
  have G_Layout_many : OkM P w K mg base 1 (He.ma K (He.ga K "Layout") "many") ["self"] (sp_Layout_many K) := ok_Layout_many T T.f_Layout_many
  have G_Layout_is_home : OkM P w K mg base 2 (He.ma K (He.ga K "Layout") "is_home") ["self", "number"] (sp_Layout_is_home K) := ok_Layout_is_home T G_Layout_many T.f_Layout_is_home
  have G_are_homes : OkF P w K mg base 3 "are_homes" ["layout", "targets"] (sp_are_homes K) := ok_are_homes T G_Layout_is_home
  have G_is_whole : OkF P w K mg base 4 "is_whole" ["layout", "volume"] (sp_is_whole K) := ok_is_whole T G_journal_check G_are_homes
  have G_wrong_journal : OkF P w K mg base 5 "wrong_journal" ["layout", "volume"] (sp_wrong_journal K) := ok_wrong_journal T G_is_whole
  have G_head_row : OkF P w K mg base 2 "head_row" ["layout", "label"] (sp_head_row K) := ok_head_row T G_check_of
  have G_due_head : OkF P w K mg base 3 "due_head" ["layout", "volume"] (sp_due_head K) := ok_due_head T G_head_row
  have G_wrong_heads : OkF P w K mg base 4 "wrong_heads" ["layout", "volume"] (sp_wrong_heads K) := ok_wrong_heads T G_due_head
  have G_wrong_bounds : OkF P w K mg base 1 "wrong_bounds" ["layout", "volume"] (sp_wrong_bounds K) := ok_wrong_bounds T
  have G_wrong_early : OkF P w K mg base 6 "wrong_early" ["layout", "volume", "clause"] (sp_wrong_early K) := ok_wrong_early T G_wrong_sizes G_wrong_kinds G_wrong_journal G_wrong_heads G_wrong_bounds
  have G_Layout_data_at : OkM P w K mg base 1 (He.ma K (He.ga K "Layout") "data_at") ["self", "place"] (sp_Layout_data_at K) := ok_Layout_data_at T T.f_Layout_data_at
  have G_map_row : OkF P w K mg base 2 "map_row" ["layout", "blocks"] (sp_map_row K) := ok_map_row T G_Layout_data_at
  have G_is_file : OkF P w K mg base 1 "is_file" ["layout", "volume", "f"] (sp_is_file K) := ok_is_file T
  have G_Layout_is_data : OkM P w K mg base 2 (He.ma K (He.ga K "Layout") "is_data") ["self", "number"] (sp_Layout_is_data K) := ok_Layout_is_data T G_Layout_data_at G_Layout_many T.f_Layout_is_data
  have G_walk_pointer : OkF P w K mg base 3 "walk_pointer" ["layout", "volume", "place", "wanted", "walked"] (sp_walk_pointer K) := ok_walk_pointer T G_Layout_is_data
  have G_walk_file : OkF P w K mg base 4 "walk_file" ["layout", "volume", "f", "walked"] (sp_walk_file K) := ok_walk_file T G_walk_pointer G_Layout_record_at
  have G_walk_files : OkF P w K mg base 5 "walk_files" ["layout", "volume"] (sp_walk_files K) := ok_walk_files T G_is_file G_walk_file
  have G_wrong_map : OkF P w K mg base 6 "wrong_map" ["layout", "volume"] (sp_wrong_map K) := ok_wrong_map T G_map_row G_walk_files
  have G_is_folder : OkF P w K mg base 1 "is_folder" ["layout", "volume", "f"] (sp_is_folder K) := ok_is_folder T
  have G_in_use : OkF P w K mg base 2 "in_use" ["layout", "volume"] (sp_in_use K) := ok_in_use T G_is_folder G_is_file
  have G_is_right : OkF P w K mg base 2 "is_right" ["layout", "volume", "told", "right"] (sp_is_right K) := ok_is_right T G_is_folder G_is_file
  have G_Layout_names_at : OkM P w K mg base 1 (He.ma K (He.ga K "Layout") "names_at") ["self", "number"] (sp_Layout_names_at K) := ok_Layout_names_at T T.f_Layout_names_at
  have G_slot_at : OkF P w K mg base 2 "slot_at" ["layout", "s"] (sp_slot_at K) := ok_slot_at T G_Layout_names_at
  have G_slot : OkF P w K mg base 3 "slot" ["layout", "volume", "s"] (sp_slot K) := ok_slot T G_slot_at
  have G_right_slots : OkF P w K mg base 4 "right_slots" ["layout", "volume"] (sp_right_slots K) := ok_right_slots T G_is_right G_slot
  have G_named : OkF P w K mg base 5 "named" ["layout", "volume"] (sp_named K) := ok_named T G_right_slots
  have G_wrong_counts : OkF P w K mg base 6 "wrong_counts" ["layout", "volume"] (sp_wrong_counts K) := ok_wrong_counts T G_in_use G_named
  have G_wrong_found : OkF P w K mg base 6 "wrong_found" ["layout", "volume"] (sp_wrong_found K) := ok_wrong_found T G_in_use G_named
  have G_ring_of : OkF P w K mg base 1 "ring_of" ["ups", "folder"] (sp_ring_of K) := ok_ring_of T
  have G_wrong_rings : OkF P w K mg base 5 "wrong_rings" ["layout", "volume"] (sp_wrong_rings K) := ok_wrong_rings T G_ring_of G_slot_at G_right_slots G_is_folder
  have G_wrong_names : OkF P w K mg base 5 "wrong_names" ["layout", "volume"] (sp_wrong_names K) := ok_wrong_names T G_slot G_slot_at G_right_slots
  have G_wrong_pieces : OkF P w K mg base 6 "wrong_pieces" ["layout", "volume"] (sp_wrong_pieces K) := ok_wrong_pieces T G_walk_files
  have G_is_number : OkF P w K mg base 1 "is_number" ["thing"] (sp_is_number K) := ok_is_number T
  have G_is_row : OkF P w K mg base 2 "is_row" ["row"] (sp_is_row K) := ok_is_row T G_is_number
  have G_check_form : OkF P w K mg base 3 "check_form" ["layout", "volume"] (sp_check_form K) := ok_check_form T G_is_row G_Layout_many
  have G_wrong : OkF P w K mg base 7 "wrong" ["layout", "volume", "clause"] (sp_wrong K) := ok_wrong T G_wrong_early G_wrong_map G_wrong_counts G_wrong_found G_wrong_rings G_wrong_names G_wrong_pieces G_check_form
  have G_faults : OkF P w K mg base 8 "faults" ["layout", "volume"] (sp_faults K) := ok_faults T G_wrong G_check_form
  have G_mend : OkF P w K mg base 8 "mend" ["layout", "volume"] (sp_mend K) := ok_mend T G_wrong G_check_form
  have G__law_words : OkF P w K mg base 1 "_law_words" ["_law_found"] (sp__law_words K) := ok__law_words T
  have G__law_wild : OkF P w K mg base 1 "_law_wild" ["_law_number", "_law_many"] (sp__law_wild K) := ok__law_wild T
  have G__law_pointer : OkF P w K mg base 1 "_law_pointer" ["_law_x", "_law_first", "_law_data"] (sp__law_pointer K) := ok__law_pointer T
  have G__law_mixed : OkF P w K mg base 1 "_law_mixed" ["_law_cell", "_law_k"] (sp__law_mixed K) := ok__law_mixed T
  have G__law_slots : OkF P w K mg base 2 "_law_slots" ["_law_cell", "_law_files"] (sp__law_slots K) := ok__law_slots T G__law_mixed
  have G__law_head : OkF P w K mg base 1 "_law_head" ["_law_sizes", "_law_label"] (sp__law_head K) := ok__law_head T
  have G__law_block : OkF P w K mg base 3 "_law_block" ["_law_b", "_law_cell", "_law_way", "_law_sizes"] (sp__law_block K) := ok__law_block T G__law_pointer G__law_slots G__law_head G__law_wild G__law_mixed
  have G__law_cell_at : OkF P w K mg base 1 "_law_cell_at" ["_law_script", "_law_k"] (sp__law_cell_at K) := ok__law_cell_at T
  have G__law_by_digits : OkF P w K mg base 2 "_law_by_digits" ["_law_script", "_law_many"] (sp__law_by_digits K) := ok__law_by_digits T G__law_wild G__law_mixed G__law_cell_at
  have G__law_volume : OkF P w K mg base 4 "_law_volume" ["_law_script", "_law_sizes"] (sp__law_volume K) := ok__law_volume T G__law_wild G__law_block G__law_cell_at G__law_by_digits
  have G_Layout___init__ : OkM P w K mg base 1 (He.ma K (He.ga K "Layout") "__init__") ["self", "files", "slots", "data"] (sp_Layout___init__ K) := ok_Layout___init__ T T.f_Layout___init__
  exact ok_law F T G_faults G_mend G_wrong G__law_words G__law_volume G__law_cell_at G_Layout___init__
end VM
open PySem PySem.W PySem.Calls PyProof.Rows
set_option maxHeartbeats 0 in
theorem PySem.Challenge.cw_volumemend_k82_whole_mended_again_holds : PySem.Challenge.rw_volumemend_k82_whole_mended_again.Holds := by
  w_on; o_law
  refine HandSHeadRun.head_any (r := OpenLaw.row PySem.Challenge.rw_volumemend_k82_whole_mended_again) (q := view (OpenLaw.row PySem.Challenge.rw_volumemend_k82_whole_mended_again).prog [75]) (H := VM.hk) (ob := VM.ob) (M := 20000) (loose := VM.loose) (d := HandSHeadRun.topDef (OpenLaw.row PySem.Challenge.rw_volumemend_k82_whole_mended_again).prog 75) (kwd := []) VM.ob_eq
    (by kernel_rfl) (fun s => by kernel_rfl) VM.run (by kernel_rfl) (by kernel_rfl) (by kernel_rfl) (by rfl) (by first | assumption | decide +kernel) (by decide +kernel) ⟨rfl, rfl, rfl, rfl, rfl, by decide +kernel⟩ ?hw ?hc
  case hw => w_witness2
  case hc =>
    refine L2.walk_ofE (l := PySem.Challenge.rw_volumemend_k82_whole_mended_again) (n := 63) (k := 9) (x := "_law_script") (CX := L2.CX0) rfl (by decide) (by kernel_rfl) ⟨rfl, by decide, by decide⟩ ?F (fun _ _ _ _ z => z)
    intro w mg fa h Y G hmg0
    obtain ⟨K, KX, c⟩ := Y
    have hmg : mg ("law" : PySem.Str) = some (.ref fa) := by
      have e : (HandSHeadRun.topDef (OpenLaw.row PySem.Challenge.rw_volumemend_k82_whole_mended_again).prog 75).name = ("law" : PySem.Str) := by kernel_rfl
      rw [← e]
      exact hmg0
    obtain ⟨fd, hb, hF⟩ := VM.facts (P := (PySem.Challenge.rw_volumemend_k82_whole_mended_again).prog) (w := w) KX G hmg (congrArg Prod.fst c.t) c.more
    exact ⟨K, fd, VM.UpP (VM.sp_law K), KX, hb, fun H a ns hl _ hS => VM.law_says hl hS, hF⟩
#print axioms PySem.Challenge.cw_volumemend_k82_whole_mended_again_holds