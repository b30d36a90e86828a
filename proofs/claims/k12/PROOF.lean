import PyProof.Rows.All
import Wide.All
import OpenK.AllK
import Wide.FinOn
import HandS.ForMost
import HandS.ForExc
import HandS.TupAny
import HandS.IsInst
import HandS.Flow
import KE.DataEq
import KE.DataCmp
import KE.DataFind
import KE.DataIsa
import KE.DataMinMax
import KE.DataAny
import KE.SortData
import KE.DatumIndex
import KE.DatumMore
import KE.KDictKeyed
import HandS.TupMul
import HandS.Style
import HandS.Zip
import HandS.SetFor
import HandS.TupSets
import HandS.Strs
import HandS.Deep
import HandS.Codes
import HandS.Defaults
import HandS.Words
import HandS.Conv
import HandS.Ends
import HandS.HeadEnd
import HandS.Head0
import HandS.Head1
import HandS.Head2
import HandS.HeadHook1
import HandS.HeadHook2
import KE.GoesMore
import KE.KDictZip
import PySem.Challenge.RW_toldahead_k12_whole_neighbours_ahead_beh
set_option Elab.async false
set_option linter.all false
set_option maxRecDepth 100000
set_option maxHeartbeats 4000000
set_option maxHeartbeats 1000000
/-! Mp1: pure values over the abstract heap. -/
namespace Mp
open PySem PySem.Spec PyProof.Rows L2
abbrev D := PyData
/-- what may change: a list, a dict with ints and texts as keys, one with tuples of these as keys -/
inductive Bx where
  | lst (xs : List D)
  | dct (kvs : List (Key × D))
  | dtt (kvs : List (List Key × D))
def keyD : Key → D
  | .inl i => .int i
  | .inr x => .str x
def keyT (k : List Key) : D := .tuple (k.map keyD)
def kvD (kvs : List (Key × D)) : List (D × D) := kvs.map fun p => (keyD p.1, p.2)
def kvT (kvs : List (List Key × D)) : List (D × D) := kvs.map fun p => (keyT p.1, p.2)
/-- it as a datum -/
def Bx.x : Bx → D
  | .lst xs => .list xs
  | .dct kvs => .dict (kvD kvs)
  | .dtt kvs => .dict (kvT kvs)
/-- an empty dict is known only as one with ints and texts -/
def Bx.ok : Bx → Bool
  | .dtt [] => false
  | _ => true
/-- what a local name may hold -/
inductive Vl where
  /-- a datum that nobody changes -/
  | d (x : D)
  /-- a list or a dict that this name alone holds -/
  | own (b : Bx)
  /-- the script -/
  | scr (xs : List D)
abbrev Env := List (Option Vl)
/-- what an expression gives -/
inductive Rs where
  | d (x : D)
  /-- a new list, a new dict -/
  | new (b : Bx)
  /-- what the i-th name owns -/
  | var (i : Nat)
  | scr (xs : List D)
def Vl.owned : Vl → Bool
  | .d _ => false
  | .own _ => true
  | .scr _ => false
/-! ### what represents a datum -/
def FzL (H : Hp) (a : Addr) (xs : List V) : Prop := ∃ o, H a = some (.frz o (.lst xs))
def ScL (K : PySem.W.Frag) (H : Hp) (a : Addr) (xs : List V) : Prop :=
  (∃ o, H a = some (.frz o (.lst xs))) ∨
    ∃ (o : Obj) (its : Array Value) (n : Nat), K.lookup a = some o ∧ o.cls = .type "list" ∧ o.dict = none ∧ o.data = .seq its n ∧ its.size ≤ sizeLine ∧ Vals xs its.toList
theorem FzL.sq {K : PySem.W.Frag} {H : Hp} {a : Addr} {xs : List V} (h : FzL H a xs) : SqL K H a xs := .inl (.inr h)
theorem ScL.sq {K : PySem.W.Frag} {H : Hp} {a : Addr} {xs : List V} (h : ScL K H a xs) : SqL K H a xs := h.elim (fun z => .inl (.inr z)) .inr
mutual
inductive RepD (K : PySem.W.Frag) (H : Hp) : V → D → Prop
  | none : RepD K H .non .none
  | bool (b : Bool) : RepD K H (.bl b) (.bool b)
  | int (i : Int) : RepD K H (.int i) (.int i)
  | str (x : Str) : RepD K H (.str x) (.str x)
  | tup {a xs ds} : SqT K H a xs → RepDs K H xs ds → RepD K H (.ref a) (.tuple ds)
  | lst {a xs ds} : FzL H a xs → RepDs K H xs ds → RepD K H (.ref a) (.list ds)
  | dct {a kws} {kvs : List (Key × D)} : (∃ o, H a = some (.frz o (.dK kws))) → kws.map Prod.fst = kvs.map Prod.fst → RepDs K H (kws.map Prod.snd) (kvs.map Prod.snd) → RepD K H (.ref a) (.dict (kvD kvs))
  | dtt {a kws} {kvs : List (List Key × D)} : (∃ o, H a = some (.frz o (.dT kws))) → kvs ≠ [] → kws.map Prod.fst = kvs.map Prod.fst → RepDs K H (kws.map Prod.snd) (kvs.map Prod.snd) → RepD K H (.ref a) (.dict (kvT kvs))
inductive RepDs (K : PySem.W.Frag) (H : Hp) : List V → List D → Prop
  | nil : RepDs K H [] []
  | cons {v vs d ds} : RepD K H v d → RepDs K H vs ds → RepDs K H (v :: vs) (d :: ds)
end
/-- what is never changed stays -/
structure Pers (H H' : Hp) : Prop where
  tups : ∀ b xs, H b = some (.tup xs) → H' b = some (.tup xs)
  frzs : ∀ b o u, H b = some (.frz o u) → H' b = some (.frz o u)
theorem Pers.refl (H : Hp) : Pers H H := ⟨fun _ _ h => h, fun _ _ _ h => h⟩
theorem Pers.trans {H H1 H2 : Hp} (a : Pers H H1) (b : Pers H1 H2) : Pers H H2 := ⟨fun c xs h => b.tups _ _ (a.tups _ _ h), fun c o u h => b.frzs _ _ _ (a.frzs _ _ _ h)⟩
section
variable {K : PySem.W.Frag} {H H' : Hp}
theorem Pers.sqT (p : Pers H H') {a : Addr} {xs : List V} (h : SqT K H a xs) : SqT K H' a xs := by
  rcases h with (h | ⟨o, h⟩) | h
  · exact .inl (.inl (p.tups _ _ h))
  · exact .inl (.inr ⟨o, p.frzs _ _ _ h⟩)
  · exact .inr h
theorem Pers.fzL (p : Pers H H') {a : Addr} {xs : List V} (h : FzL H a xs) : FzL H' a xs := by
  obtain ⟨o, h⟩ := h
  exact ⟨o, p.frzs _ _ _ h⟩
theorem Pers.scL (p : Pers H H') {a : Addr} {xs : List V} (h : ScL K H a xs) : ScL K H' a xs := by
  rcases h with ⟨o, h⟩ | h
  · exact .inl ⟨o, p.frzs _ _ _ h⟩
  · exact .inr h
mutual
theorem RepD.pers (p : Pers H H') : ∀ {v : V} {x : D}, RepD K H v x → RepD K H' v x
  | _, _, .none => .none
  | _, _, .bool b => .bool b
  | _, _, .int i => .int i
  | _, _, .str x => .str x
  | _, _, .tup h r => .tup (p.sqT h) (RepDs.pers p r)
  | _, _, .lst h r => .lst (p.fzL h) (RepDs.pers p r)
  | _, _, .dct ⟨o, h⟩ e r => .dct ⟨o, p.frzs _ _ _ h⟩ e (RepDs.pers p r)
  | _, _, .dtt ⟨o, h⟩ n e r => .dtt ⟨o, p.frzs _ _ _ h⟩ n e (RepDs.pers p r)
theorem RepDs.pers (p : Pers H H') : ∀ {vs : List V} {xs : List D}, RepDs K H vs xs → RepDs K H' vs xs
  | _, _, .nil => .nil
  | _, _, .cons r t => .cons (RepD.pers p r) (RepDs.pers p t)
end
theorem RepDs.length : ∀ {vs : List V} {xs : List D}, RepDs K H vs xs → vs.length = xs.length
  | _, _, .nil => rfl
  | _, _, .cons _ t => congrArg (· + 1) t.length
theorem RepDs.get : ∀ {vs : List V} {xs : List D} {i : Nat} {x : D}, RepDs K H vs xs → xs[i]? = some x → ∃ v, vs[i]? = some v ∧ RepD K H v x
  | _, _, _, _, .nil, h => by simp at h
  | _, _, 0, _, .cons r _, h => by simp at h; subst h; exact ⟨_, rfl, r⟩
  | _, _, i + 1, _, .cons _ t, h => by
    obtain ⟨v, h1, h2⟩ := RepDs.get (i := i) t (by simpa using h)
    exact ⟨v, by simpa using h1, h2⟩
theorem RepDs.get' : ∀ {vs : List V} {xs : List D} {i : Nat} {v : V}, RepDs K H vs xs → vs[i]? = some v → ∃ x, xs[i]? = some x ∧ RepD K H v x
  | _, _, _, _, .nil, h => by simp at h
  | _, _, 0, _, .cons r _, h => by simp at h; subst h; exact ⟨_, rfl, r⟩
  | _, _, i + 1, _, .cons _ t, h => by
    obtain ⟨v, h1, h2⟩ := RepDs.get' (i := i) t (by simpa using h)
    exact ⟨v, by simpa using h1, h2⟩
theorem RepDs.append : ∀ {vs ws : List V} {xs ys : List D}, RepDs K H vs xs → RepDs K H ws ys → RepDs K H (vs ++ ws) (xs ++ ys)
  | _, _, _, _, .nil, s => s
  | _, _, _, _, .cons r t, s => .cons r (RepDs.append t s)
theorem RepDs.take : ∀ {vs : List V} {xs : List D} (n : Nat), RepDs K H vs xs → RepDs K H (vs.take n) (xs.take n)
  | _, _, 0, _ => .nil
  | _, _, _ + 1, .nil => .nil
  | _, _, n + 1, .cons r t => .cons r (RepDs.take n t)
theorem RepDs.drop : ∀ {vs : List V} {xs : List D} (n : Nat), RepDs K H vs xs → RepDs K H (vs.drop n) (xs.drop n)
  | _, _, 0, r => r
  | _, _, _ + 1, .nil => .nil
  | _, _, n + 1, .cons _ t => RepDs.drop n t
theorem RepDs.reverse : ∀ {vs : List V} {xs : List D}, RepDs K H vs xs → RepDs K H vs.reverse xs.reverse
  | _, _, .nil => .nil
  | _, _, .cons r t => by
    rw [List.reverse_cons, List.reverse_cons]
    exact RepDs.append (RepDs.reverse t) (.cons r .nil)
theorem RepDs.set {v : V} {x : D} (r : RepD K H v x) : ∀ {vs : List V} {xs : List D} (i : Nat), RepDs K H vs xs → RepDs K H (vs.set i v) (xs.set i x)
  | _, _, _, .nil => .nil
  | _, _, 0, .cons _ t => .cons r t
  | _, _, i + 1, .cons q t => .cons q (RepDs.set r i t)
theorem RepDs.eraseIdx : ∀ {vs : List V} {xs : List D} (i : Nat), RepDs K H vs xs → RepDs K H (vs.eraseIdx i) (xs.eraseIdx i)
  | _, _, _, .nil => .nil
  | _, _, 0, .cons _ t => t
  | _, _, i + 1, .cons q t => .cons q (RepDs.eraseIdx i t)
end
/-- the content of a thing that may change -/
def BxAt (K : PySem.W.Frag) (H : Hp) : HO → Bx → Prop
  | .lst vs, .lst xs => RepDs K H vs xs
  | .dK kws, .dct kvs => kws.map Prod.fst = kvs.map Prod.fst ∧ RepDs K H (kws.map Prod.snd) (kvs.map Prod.snd)
  | .dT kws, .dtt kvs => kws.map Prod.fst = kvs.map Prod.fst ∧ RepDs K H (kws.map Prod.snd) (kvs.map Prod.snd)
  | _, _ => False
/-- a list or a dict -/
def Mu : HO → Prop
  | .lst _ => True
  | .dK _ => True
  | .dT _ => True
  | _ => False
section
variable {K : PySem.W.Frag} {H H' : Hp}
theorem BxAt.mu {o : HO} {b : Bx} (h : BxAt K H o b) : Mu o := by
  cases o <;> cases b <;> first | trivial | exact h.elim
theorem Mu.mut {o : HO} (h : Mu o) : Mut (some o) := by
  cases o <;> first | trivial | exact h.elim
theorem Mu.tup {xs : List V} (h : Mu (.tup xs)) : False := h
theorem Mu.frz {o : Obj} {u : HO} (h : Mu (.frz o u)) : False := h
theorem BxAt.pers {o : HO} {b : Bx} (p : Pers H H') (h : BxAt K H o b) : BxAt K H' o b := by
  cases o <;> cases b <;> first | exact h.elim | exact RepDs.pers p h | exact ⟨h.1, RepDs.pers p h.2⟩
theorem BxAt.l {o : HO} {xs : List D} (h : BxAt K H o (.lst xs)) : ∃ vs, o = .lst vs ∧ RepDs K H vs xs := by
  cases o <;> first | exact ⟨_, rfl, h⟩ | exact h.elim
/-- known, as a datum -/
theorem BxAt.rep {a : Addr} {u : HO} {b : Bx} {o : Obj} (h : BxAt K H u b) (e : H a = some (.frz o u)) (k : b.ok = true) : RepD K H (.ref a) b.x := by
  cases u <;> cases b <;> first | exact h.elim | exact .lst ⟨o, e⟩ h | exact .dct ⟨o, e⟩ h.1 h.2 | exact .dtt ⟨o, e⟩ (by rintro rfl; cases k) h.1 h.2
end
/-! ### the datum that a value of the heap reads as -/
section
variable {P : Program} {w : World} {K : PySem.W.Frag} {H : Hp} {h : Heap}
theorem keys_read {es : List DictEntry} {vs : List (Key × Value)} (p : Pairs (mixKind P w) es vs) : ∃ as, ReadsAll h (es.map (·.key)) (vs.map fun q => keyD q.1) as := by
  induction p with
  | nil => exact ⟨_, .nil⟩
  | @cons e kv es kvs h1 h2 t ih =>
    obtain ⟨as, ih⟩ := ih
    rcases keyIs_shape h1 with ⟨i, t, e1, e2⟩ | ⟨x, t, e1, e2⟩
    · refine ⟨_, .cons (as := []) ?_ ih⟩
      show Reads h e.key (keyD kv.1) []
      rw [e1, e2]
      exact .int i t
    · refine ⟨_, .cons (as := []) ?_ ih⟩
      show Reads h e.key (keyD kv.1) []
      rw [e1, e2]
      exact .str x t
theorem vals_of {es : List DictEntry} {vs : List (Key × Value)} (p : Pairs (mixKind P w) es vs) : es.map (·.val) = vs.map (·.2) := by
  induction p with
  | nil => rfl
  | @cons e kv es kvs h1 h2 t ih => rw [List.map_cons, List.map_cons, h2, ih]
theorem KV.fst {κ : Type} {kvs : List (κ × V)} {vs : List (κ × Value)} (r : KV kvs vs) : kvs.map Prod.fst = vs.map Prod.fst := by
  unfold KV at r
  induction r with
  | nil => rfl
  | @cons p q ps qs h t ih => rw [List.map_cons, List.map_cons, h.1, ih]
theorem KV.snd {κ : Type} {kvs : List (κ × V)} {vs : List (κ × Value)} (r : KV kvs vs) : Vals (kvs.map Prod.snd) (vs.map Prod.snd) := by
  unfold KV at r
  induction r with
  | nil => exact .nil
  | @cons p q ps qs h t ih => exact .cons h.2 ih
theorem its_key {vs : List Value} : ∀ {k : List Key}, Vals (k.map kV) vs → ReadsAll h vs (k.map keyD) [] := by
  intro k
  induction k generalizing vs with
  | nil => intro r; cases r; exact .nil
  | cons k ks ih =>
    intro r
    rw [List.map_cons] at r
    cases r with
    | cons r t =>
      refine .cons (as := []) (bs := []) ?_ (ih t)
      cases k with
      | inl i => obtain ⟨t, rfl⟩ := r; exact .int i t
      | inr x => obtain ⟨t, rfl⟩ := r; exact .str x t
theorem keysT_read (ok : HOk P w H h) {kvs : List (List Key × V)} {xs : List (List Key × Addr × Value)} (r : KT H kvs xs) : ∃ as, ReadsAll h (xs.map fun q => Value.ref q.2.1) (kvs.map fun q => keyT q.1) as := by
  unfold KT at r
  induction r with
  | nil => exact ⟨_, .nil⟩
  | @cons p q ps qs hq t ih =>
    obtain ⟨as, ih⟩ := ih
    obtain ⟨z, its, rv, o, e, c, n, d⟩ := (show ObjOk P w H h q.2.1 (.tup (p.1.map kV)) from ok _ _ hq.2.1)
    exact ⟨_, .cons (.tuple e c d (by simpa using its_key rv)) ih⟩
theorem KT.fst {kvs : List (List Key × V)} {xs : List (List Key × Addr × Value)} (r : KT H kvs xs) : Vals (kvs.map Prod.snd) (xs.map fun q => q.2.2) := by
  unfold KT at r
  induction r with
  | nil => exact .nil
  | @cons p q ps qs h t ih => exact .cons h.2.2 ih
theorem fst_map {α β γ δ : Type} {f : α → δ} {kws : List (α × β)} {kvs : List (α × γ)} (e : kws.map Prod.fst = kvs.map Prod.fst) : (kws.map fun q => f q.1) = kvs.map fun q => f q.1 := by
  have h := congrArg (List.map f) e
  rw [List.map_map, List.map_map] at h
  exact h
mutual
theorem RepD.reads (ok : HOk P w H h) (k : K.In h) : ∀ {v : V} {x : D} {u : Value}, RepD K H v x → RelV v u → ∃ as, Reads h u x as
  | _, _, _, .none, r => by cases r; exact ⟨_, .none⟩
  | _, _, _, .bool b, r => by cases r; exact ⟨_, .bool b⟩
  | _, _, _, .int i, r => by obtain ⟨t, rfl⟩ := r; exact ⟨_, .int i t⟩
  | _, _, _, .str x, r => by obtain ⟨t, rfl⟩ := r; exact ⟨_, .str x t⟩
  | _, _, _, .tup (a := a) (xs := xs) hq rs, r => by
    cases r
    rcases hq with hq | ⟨o, its, n, hk, hc, hd, hz, rv⟩
    · obtain ⟨z, its, rv, o, e, c, n, d⟩ := hq.ok ok
      obtain ⟨as, q⟩ := RepDs.reads ok k rs rv
      exact ⟨as, .tuple e c d (by simpa using q)⟩
    · obtain ⟨as, q⟩ := RepDs.reads ok k rs rv
      exact ⟨as, .tuple (k a o hk) hc hd q⟩
  | _, _, _, .lst (a := a) (xs := xs) hq rs, r => by
    cases r
    obtain ⟨o, hq⟩ := hq
    obtain ⟨eo, z, its, n, rv, e⟩ := ok a _ hq
    obtain ⟨as, q⟩ := RepDs.reads ok k rs rv
    exact ⟨_, .list e rfl rfl (by simpa using q)⟩
  | _, _, _, .dct (a := a) (kws := kws) (kvs := kvs) ⟨o, hq⟩ ek rs, r => by
    cases r
    obtain ⟨eo, z, y, vs, kv, o', es, ep, e, c, d, _, hes, nd⟩ := ok a _ hq
    obtain ⟨as, q⟩ := RepDs.reads ok k rs (KV.snd kv)
    obtain ⟨bs, qk⟩ := keys_read (h := h) hes
    refine ⟨_, .dict e (by exact c.1) d (as := bs) (bs := as) ?_ ?_⟩
    · have e2 : (kvD kvs).map (·.1) = vs.map fun q => keyD q.1 := by
        unfold kvD
        rw [List.map_map]
        exact fst_map (f := keyD) (ek.symm.trans (KV.fst kv))
      rw [e2]
      exact qk
    · have e2 : (kvD kvs).map (·.2) = kvs.map Prod.snd := by
        unfold kvD
        rw [List.map_map]
        rfl
      rw [e2, vals_of hes]
      exact q
  | _, _, _, .dtt (a := a) (kws := kws) (kvs := kvs) ⟨o, hq⟩ _ ek rs, r => by
    cases r
    obtain ⟨eo, z, y, xs, kv, o', es, ep, e, c, d, hes, nd⟩ := ok a _ hq
    obtain ⟨as, q⟩ := RepDs.reads ok k rs (KT.fst kv)
    obtain ⟨bs, qk⟩ := keysT_read ok kv
    refine ⟨_, .dict e (by exact c.1) d (as := bs) (bs := as) ?_ ?_⟩
    · have e2 : (kvT kvs).map (·.1) = kws.map fun q => keyT q.1 := by
        unfold kvT
        rw [List.map_map]
        exact fst_map (f := keyT) ek.symm
      rw [e2, hes, List.map_map]
      exact qk
    · have e2 : (kvT kvs).map (·.2) = kvs.map Prod.snd := by
        unfold kvT
        rw [List.map_map]
        rfl
      rw [e2, hes, List.map_map]
      exact q
theorem RepDs.reads (ok : HOk P w H h) (k : K.In h) : ∀ {vs : List V} {xs : List D} {us : List Value}, RepDs K H vs xs → Vals vs us → ∃ as, ReadsAll h us xs as
  | _, _, _, .nil, .nil => ⟨_, .nil⟩
  | _, _, _, .cons r t, .cons q s => by
    obtain ⟨as, a⟩ := RepD.reads ok k r q
    obtain ⟨bs, b⟩ := RepDs.reads ok k t s
    exact ⟨_, .cons a b⟩
end
end
end Mp
set_option maxHeartbeats 1000000
/-! Mp2: environments, what an evaluation leaves, the reading of a combinator. -/
namespace Mp
open PySem PySem.Spec PyProof.Rows L2
structure Ex where
  cls : Str
  fs : Option (List (Str × D))
inductive Ot (α : Type) where
  | ok (a : α)
  | exc (x : Ex)
  | stuck
def Ot.bind {α β : Type} : Ot α → (α → Ot β) → Ot β
  | .ok a, f => f a
  | .exc x, _ => .exc x
  | .stuck, _ => .stuck
/-- v stands for what a name holds -/
def RepV (K : PySem.W.Frag) (H : Hp) (v : V) : Vl → Prop
  | .d x => RepD K H v x
  | .own b => ∃ a o, v = .ref a ∧ H a = some o ∧ BxAt K H o b
  | .scr xs => ∃ a vs, v = .ref a ∧ ScL K H a vs ∧ RepDs K H vs xs
/-- what the i-th name holds -/
def lk : Env → Nat → Option Vl
  | [], _ => none
  | a :: _, 0 => a
  | _ :: r, n + 1 => lk r n
theorem lk_iff : ∀ (ρ : Env) (i : Nat) (vl : Vl), lk ρ i = some vl ↔ ρ[i]? = some (some vl)
  | [], i, vl => by simp [lk]
  | a :: r, 0, vl => by simp [lk]
  | a :: r, n + 1, vl => by
    show lk r n = some vl ↔ _
    rw [lk_iff r n vl]
    simp
theorem lk_lt {ρ : Env} {i : Nat} {vl : Vl} (h : lk ρ i = some vl) : i < ρ.length := by
  have h := (lk_iff ρ i vl).mp h
  exact (List.getElem?_eq_some_iff.mp h).1
theorem lk_set_self : ∀ {ρ : Env} {i : Nat} {x : Option Vl}, i < ρ.length → lk (ρ.set i x) i = x
  | [], _, _, h => absurd h (Nat.not_lt_zero _)
  | _ :: _, 0, _, _ => rfl
  | _ :: r, n + 1, x, h => lk_set_self (ρ := r) (i := n) (by simpa using h)
theorem lk_set_ne : ∀ {ρ : Env} {i j : Nat} {x : Option Vl}, i ≠ j → lk (ρ.set i x) j = lk ρ j
  | [], _, _, _, _ => rfl
  | _ :: _, 0, 0, _, h => absurd rfl h
  | _ :: _, 0, _ + 1, _, _ => rfl
  | _ :: _, _ + 1, 0, _, _ => rfl
  | _ :: r, n + 1, m + 1, x, h => lk_set_ne (ρ := r) (i := n) (j := m) fun e => h (congrArg (· + 1) e)
def OwnAt (ρ : Env) (σ : L2.St) (i : Nat) (a : Addr) : Prop := (∃ vl, lk ρ i = some vl ∧ vl.owned = true) ∧ σ[i]? = some (some (.ref a))
def Ow (ρ : Env) (σ : L2.St) (a : Addr) : Prop := ∃ i, OwnAt ρ σ i a
structure Sim (K : PySem.W.Frag) (ρ : Env) (σ : L2.St) (H : Hp) : Prop where
  len : σ.length = ρ.length
  rep : ∀ (i : Nat) (vl : Vl), lk ρ i = some vl → ∃ v, σ[i]? = some (some v) ∧ RepV K H v vl
  one : ∀ i j a, OwnAt ρ σ i a → OwnAt ρ σ j a → i = j
/-- all that O does not tell stays -/
def Keep (O : Addr → Prop) (H H' : Hp) : Prop := ∀ b o, H b = some o → ¬ O b → H' b = some o
theorem Keep.refl {O : Addr → Prop} {H : Hp} : Keep O H H := fun _ _ h _ => h
theorem Keep.trans {O O' : Addr → Prop} {H H1 H2 : Hp} (a : Keep O H H1) (b : Keep O' H1 H2) (h : ∀ c, O' c → O c ∨ H c = none) : Keep O H H2 := fun c o e n =>
  b c o (a c o e n) fun z => (h c z).elim n fun y => by rw [e] at y; cases y
theorem Keep.mono {O O' : Addr → Prop} {H H' : Hp} (a : Keep O H H') (h : ∀ c, O c → O' c) : Keep O' H H' := fun c o e n => a c o e fun z => n (h c z)
theorem Keep.updN {O : Addr → Prop} {H : Hp} {p : Addr} {o : HO} (h : H p = none) : Keep O H (upd H p o) := fun b u e _ => by rw [upd_ne (ne_of_none e h)]; exact e
section
variable {K : PySem.W.Frag} {ρ ρ1 ρ2 : Env} {σ : L2.St} {H H1 H2 : Hp}
theorem Sim.own (S : Sim K ρ σ H) {a : Addr} {i : Nat} (h : OwnAt ρ σ i a) : ∃ b o, lk ρ i = some (.own b) ∧ H a = some o ∧ BxAt K H o b := by
  obtain ⟨⟨vl, e, ho⟩, es⟩ := h
  obtain ⟨v, e1, r⟩ := S.rep i vl e
  rw [es] at e1
  cases e1
  cases vl with
  | d x => cases ho
  | scr xs => cases ho
  | own b =>
    obtain ⟨a', o, ea, hl, rs⟩ := r
    cases ea
    exact ⟨b, o, e, hl, rs⟩
theorem Sim.ow (S : Sim K ρ σ H) {a : Addr} (h : Ow ρ σ a) : ∃ o, H a = some o ∧ Mu o := by
  obtain ⟨i, h⟩ := h
  obtain ⟨_, o, _, e, r⟩ := S.own h
  exact ⟨o, e, r.mu⟩
theorem Sim.pers (S : Sim K ρ σ H) (k : Keep (Ow ρ σ) H H1) : Pers H H1 where
  tups := fun b xs e => k b _ e fun z => by obtain ⟨o, e', m⟩ := S.ow z; rw [e] at e'; cases e'; exact m
  frzs := fun b o u e => k b _ e fun z => by obtain ⟨o, e', m⟩ := S.ow z; rw [e] at e'; cases e'; exact m
theorem pers_upd {p : Addr} {o : HO} (h : H p = none) : Pers H (upd H p o) := ⟨fun b xs e => by rw [upd_ne (ne_of_none e h)]; exact e, fun b u x e => by rw [upd_ne (ne_of_none e h)]; exact e⟩
theorem Sim.not_ow (S : Sim K ρ σ H) {a : Addr} (h : H a = none) : ¬ Ow ρ σ a := fun z => by
  obtain ⟨o, e, _⟩ := S.ow z
  rw [h] at e; cases e
/-- another heap in which all is kept -/
theorem Sim.heap (S : Sim K ρ σ H) (p : Pers H H1) (k : ∀ a o, Ow ρ σ a → H a = some o → H1 a = some o) : Sim K ρ σ H1 := by
  refine ⟨S.len, fun i vl e => ?_, S.one⟩
  obtain ⟨v, e1, r⟩ := S.rep i vl e
  refine ⟨v, e1, ?_⟩
  cases vl with
  | d x => exact RepD.pers p r
  | scr xs =>
    obtain ⟨a, vs, ea, hl, rs⟩ := r
    exact ⟨a, vs, ea, p.scL hl, RepDs.pers p rs⟩
  | own b =>
    obtain ⟨a, o, ea, hl, rs⟩ := r
    exact ⟨a, o, ea, k a o ⟨i, ⟨_, e, rfl⟩, by rw [e1, ea]⟩ hl, rs.pers p⟩
theorem Sim.updN (S : Sim K ρ σ H) {p : Addr} {o : HO} (h : H p = none) : Sim K ρ σ (upd H p o) :=
  S.heap (pers_upd h) fun a vs _ e => by rw [upd_ne (ne_of_none e h)]; exact e
/-- a value as what an expression gives -/
def RsAt (K : PySem.W.Frag) (ρ : Env) (σ : L2.St) (H : Hp) (v : V) : Rs → Prop
  | .d x => RepD K H v x
  | .new b => ∃ a o, v = .ref a ∧ H a = some o ∧ BxAt K H o b ∧ ¬ Ow ρ σ a
  | .var i => σ[i]? = some (some v) ∧ ∃ vl, lk ρ i = some vl
  | .scr xs => ∃ a vs, v = .ref a ∧ ScL K H a vs ∧ RepDs K H vs xs
def Fresh (H : Hp) (v : V) : Rs → Prop
  | .new _ => ∀ a, v = .ref a → H a = none
  | _ => True
structure EPost (K : PySem.W.Frag) (ρ : Env) (σ : L2.St) (H : Hp) (ρ' : Env) (H' : Hp) (v : V) (r : Rs) : Prop where
  sim : Sim K ρ' σ H'
  keep : Keep (Ow ρ σ) H H'
  grow : ∀ a, H' a = none → H a = none
  sub : ∀ a, Ow ρ' σ a → Ow ρ σ a
  dom : ∀ i vl, lk ρ i = some vl → ∃ vl', lk ρ' i = some vl'
  at_ : RsAt K ρ' σ H' v r
  fresh : Fresh H v r
/-- an exception's class and fields -/
def ExOk (K : PySem.W.Frag) (mg : Str → Option Value) (x : Ex) (cls : Value) (d : Option Addr) (H : Hp) : Prop :=
  ∃ C, mg x.cls = some (.ref C) ∧ cls = .ref C ∧ match x.fs with
    | none => d = none
    | some fs => ∃ dd fvs, d = some dd ∧ H dd = some (.xd fvs) ∧ fvs.map (·.1) = fs.map (·.1) ∧ RepDs K H (fvs.map (·.2)) (fs.map (·.2))
theorem grow_upd {H : Hp} {p : Addr} {o : HO} : ∀ a, upd H p o a = none → H a = none := fun a e => by
  unfold upd at e
  split at e
  · cases e
  · exact e
abbrev M := Env → Ot (Rs × Env)
def EOut (K : PySem.W.Frag) (mg : Str → Option Value) (W : WX) (ρ : Env) (σ : L2.St) (H : Hp) (Q : VK) : Ot (Rs × Env) → Prop
  | .ok (r, ρ') => ∀ v H', EPost K ρ σ H ρ' H' v r → Q v H'
  | .exc x => ∀ cls d H', ExOk K mg x cls d H' → Keep (Ow ρ σ) H H' → W cls d σ H'
  | .stuck => False
/-- the reading of a combinator -/
def tOf (K : PySem.W.Frag) (mg : Str → Option Value) (W : WX) (m : M) : TE := fun σ H Q => ∃ ρ, Sim K ρ σ H ∧ EOut K mg W ρ σ H Q (m ρ)
theorem RsAt.move {v : V} {r : Rs} (S : Sim K ρ1 σ H1) (h : RsAt K ρ1 σ H1 v r) (k : Keep (Ow ρ1 σ) H1 H2) (sub : ∀ a, Ow ρ2 σ a → Ow ρ1 σ a) (dom : ∀ i vl, lk ρ1 i = some vl → ∃ vl', lk ρ2 i = some vl') : RsAt K ρ2 σ H2 v r := by
  cases r with
  | d x => exact RepD.pers (S.pers k) h
  | new b =>
    obtain ⟨a, o, e, hl, rs, n⟩ := h
    exact ⟨a, o, e, k a _ hl n, rs.pers (S.pers k), fun z => n (sub a z)⟩
  | var i =>
    obtain ⟨e, vl, e'⟩ := h
    exact ⟨e, dom i vl e'⟩
  | scr xs =>
    obtain ⟨a, vs, e, hl, rs⟩ := h
    exact ⟨a, vs, e, (S.pers k).scL hl, RepDs.pers (S.pers k) rs⟩
end
end Mp
set_option maxHeartbeats 1000000
/-! Mp3: names, constants, freezing, operators. -/
namespace Mp
open PySem PySem.Spec PyProof.Rows L2
theorem obj_some {P : Program} {w : World} {H : Hp} {h : Heap} {a : Addr} {u : HO} (x : ObjOk P w H h a u) (mu : Mu u) : ∃ o, h.get? a = some o := by
  cases u with
  | lst xs => obtain ⟨_, _, _, _, e⟩ := x; exact ⟨_, e⟩
  | dK kvs => obtain ⟨_, _, _, _, o, _, _, e, _⟩ := x; exact ⟨o, e⟩
  | dT kvs => obtain ⟨_, _, _, _, o, _, _, e, _⟩ := x; exact ⟨o, e⟩
  | _ => exact mu.elim
theorem PE.weak {X : Cx} {e : Expr} {t t' : TE} (h : PE X e t) (hw : ∀ σ H Q, t' σ H Q → t σ H Q) : PE X e t' :=
  ⟨fun pins s σ H Q I q => h.run pins s σ H Q I (hw σ H Q q)⟩
/-- .. with a step of the mind at the end -/
theorem PE.ghost {X : Cx} {e : Expr} {t t' : TE} (h : PE X e t)
    (hw : ∀ σ H Q, t' σ H Q → ∃ Q1 : VK, t σ H Q1 ∧ ∀ pins v u H1 s1, Inv X pins σ H1 s1 → RelV v u → Q1 v H1 → EP X pins σ Q u s1) : PE X e t' :=
  ⟨fun pins s σ H Q I q => by
    obtain ⟨Q1, q1, f⟩ := hw σ H Q q
    exact thn (h.run pins s σ H Q1 I q1) fun u s1 ⟨v, H1, I1, r1, z⟩ => f pins v u H1 s1 I1 r1 z⟩
section
variable {K : PySem.W.Frag} {mg : Str → Option Value} {W : WX} {ρ ρ1 ρ2 : Env} {σ : L2.St} {H H1 H2 : Hp} {Q Q' : VK}
theorem EPost.refl {v : V} {r : Rs} (S : Sim K ρ σ H) (a : RsAt K ρ σ H v r) (f : Fresh H v r) : EPost K ρ σ H ρ H v r :=
  ⟨S, Keep.refl, fun _ h => h, fun _ h => h, fun _ vl h => ⟨vl, h⟩, a, f⟩
/-- what an evaluation leaves, without its value -/
structure Mid (K : PySem.W.Frag) (ρ : Env) (σ : L2.St) (H : Hp) (ρ' : Env) (H' : Hp) : Prop where
  sim : Sim K ρ' σ H'
  keep : Keep (Ow ρ σ) H H'
  grow : ∀ a, H' a = none → H a = none
  sub : ∀ a, Ow ρ' σ a → Ow ρ σ a
  dom : ∀ i vl, lk ρ i = some vl → ∃ vl', lk ρ' i = some vl'
theorem EPost.mid {v : V} {r : Rs} (p : EPost K ρ σ H ρ1 H1 v r) : Mid K ρ σ H ρ1 H1 := ⟨p.sim, p.keep, p.grow, p.sub, p.dom⟩
theorem Mid.refl (S : Sim K ρ σ H) : Mid K ρ σ H ρ H := ⟨S, Keep.refl, fun _ h => h, fun _ h => h, fun _ vl h => ⟨vl, h⟩⟩
theorem Mid.trans (p : Mid K ρ σ H ρ1 H1) (q : Mid K ρ1 σ H1 ρ2 H2) : Mid K ρ σ H ρ2 H2 :=
  ⟨q.sim, p.keep.trans q.keep fun c h => .inl (p.sub c h), fun a h => p.grow a (q.grow a h), fun a h => p.sub a (q.sub a h), fun i vl h => by
    obtain ⟨vl', h'⟩ := p.dom i vl h
    exact q.dom i vl' h'⟩
theorem Mid.post {v : V} {r : Rs} (p : Mid K ρ σ H ρ1 H1) (a : RsAt K ρ1 σ H1 v r) (f : Fresh H v r) : EPost K ρ σ H ρ1 H1 v r := ⟨p.sim, p.keep, p.grow, p.sub, p.dom, a, f⟩
theorem Fresh.grow {v : V} {r : Rs} (g : ∀ a, H1 a = none → H a = none) (f : Fresh H1 v r) : Fresh H v r := by
  cases r with
  | new xs => exact fun a e => g a (f a e)
  | d x => trivial
  | var i => trivial
  | scr xs => trivial
theorem Mid.after {v : V} {r : Rs} (p : Mid K ρ σ H ρ1 H1) (q : EPost K ρ1 σ H1 ρ2 H2 v r) : EPost K ρ σ H ρ2 H2 v r := (p.trans q.mid).post q.at_ (q.fresh.grow p.grow)
/-- an object more -/
theorem Mid.updN (S : Sim K ρ σ H) {p : Addr} {o : HO} (h : H p = none) : Mid K ρ σ H ρ (upd H p o) := by
  exact ⟨S.updN h, Keep.updN h, grow_upd, fun _ h => h, fun _ vl h => ⟨vl, h⟩⟩
theorem RsAt.mid {v : V} {r : Rs} (S : Sim K ρ1 σ H1) (h : RsAt K ρ1 σ H1 v r) (m : Mid K ρ1 σ H1 ρ2 H2) : RsAt K ρ2 σ H2 v r := h.move S m.keep m.sub m.dom
end
end Mp
namespace Mp
open PySem PySem.Spec PyProof.Rows L2
section
variable {X : Cx} {pins : List (Addr × Obj)} {σ : L2.St} {H : Hp} {s : Shared}
/-- a thing is known from now on -/
theorem inv_freeze {a : Addr} {u : HO} (I : Inv X pins σ H s) (h : H a = some u) (mu : Mu u) : ∃ o, Inv X pins σ (upd H a (.frz o u)) s := by
  have ok := I.hok a _ h
  obtain ⟨o, e⟩ := obj_some ok mu
  refine ⟨o, I.write (t' := s.toks) (h' := s.heap) (x := a) (e := a) (by rw [h]; exact mu.mut) (.inl rfl) (fun b u _ q => q) ⟨_, e⟩ ⟨e, ok.stay (fun _ _ _ q => q) (fun b q => ?_) (fun b xs q => ?_)⟩⟩
  · rw [upd_ne (by rintro rfl; rw [h] at q; cases q; exact mu)]; exact q
  · rw [upd_ne (by rintro rfl; rw [h] at q; cases q; exact mu)]; exact q
end
end Mp
namespace Mp
open PySem PySem.Spec PyProof.Rows L2
/-- as a datum that nobody changes from now on -/
def fz (r : Rs) (ρ : Env) : Option (D × Env) :=
  match r with
  | .d x => some (x, ρ)
  | .new b => if b.ok then some (b.x, ρ) else none
  | .var i => match lk ρ i with
    | some (.own b) => if b.ok then some (b.x, ρ.set i (some (.d b.x))) else none
    | some (.d x) => some (x, ρ)
    | _ => none
  | .scr _ => none
section
variable {K : PySem.W.Frag} {mg : Str → Option Value} {W : WX} {ρ0 ρ ρ1 ρ2 : Env} {σ : L2.St} {H0 H H1 H2 : Hp} {Q Q' : VK}
theorem pers_mut {a : Addr} {o u : HO} (h : H a = some o) (mu : Mu o) : Pers H (upd H a u) :=
  ⟨fun b xs e => by rw [upd_ne (ne_of e h (by intro z; rw [← z] at mu; exact mu))]; exact e, fun b u x e => by rw [upd_ne (ne_of e h (by intro z; rw [← z] at mu; exact mu))]; exact e⟩
theorem grow_upd' {a : Addr} {o o' : HO} (h : H a = some o') : ∀ b, upd H a o b = none → H b = none := grow_upd
theorem ow_set {i : Nat} {x : D} {a : Addr} (h : Ow (ρ.set i (some (.d x))) σ a) : ∃ j, j ≠ i ∧ OwnAt ρ σ j a := by
  obtain ⟨j, ⟨vl, e, ho⟩, es⟩ := h
  by_cases hj : j = i
  · subst hj
    by_cases hl : j < ρ.length
    · rw [lk_set_self hl] at e
      cases e
      cases ho
    · have := lk_lt e
      rw [List.length_set] at this
      exact absurd this hl
  · rw [lk_set_ne (Ne.symm hj)] at e
    exact ⟨j, hj, ⟨vl, e, ho⟩, es⟩
/-- a name's list is known from now on -/
theorem Sim.frz {i : Nat} {a : Addr} {bx : Bx} {u : HO} {o : Obj} (S : Sim K ρ σ H) (e : lk ρ i = some (.own bx)) (es : σ[i]? = some (some (.ref a))) (h : H a = some u) (rs : BxAt K H u bx) (bk : bx.ok = true) :
    Sim K (ρ.set i (some (.d bx.x))) σ (upd H a (.frz o u)) := by
  have hi := lk_lt e
  have p : Pers H (upd H a (.frz o u)) := pers_mut h rs.mu
  refine ⟨by rw [List.length_set]; exact S.len, fun j vl ej => ?_, fun j k b h1 h2 => ?_⟩
  · by_cases hj : i = j
    · subst hj
      rw [lk_set_self hi] at ej
      cases ej
      exact ⟨_, es, (rs.pers p).rep upd_same bk⟩
    · rw [lk_set_ne hj] at ej
      obtain ⟨v, e1, r⟩ := S.rep j vl ej
      refine ⟨v, e1, ?_⟩
      cases vl with
      | d x => exact RepD.pers p r
      | scr ys =>
        obtain ⟨b, ws, ea, hl, rs'⟩ := r
        exact ⟨b, ws, ea, p.scL hl, RepDs.pers p rs'⟩
      | own ys =>
        obtain ⟨b, ws, ea, hl, rs'⟩ := r
        subst ea
        have nb : b ≠ a := by
          rintro rfl
          exact hj (S.one i j _ ⟨⟨_, e, rfl⟩, es⟩ ⟨⟨_, ej, rfl⟩, e1⟩)
        exact ⟨b, ws, rfl, by rw [upd_ne nb]; exact hl, rs'.pers p⟩
  · have g : ∀ j, OwnAt (ρ.set i (some (.d bx.x))) σ j b → OwnAt ρ σ j b := by
      rintro j ⟨⟨vl, e1, e2⟩, e3⟩
      by_cases hj : i = j
      · subst hj
        rw [lk_set_self hi] at e1
        cases e1
        cases e2
      · rw [lk_set_ne hj] at e1
        exact ⟨⟨vl, e1, e2⟩, e3⟩
    exact S.one j k b (g j h1) (g k h2)
theorem freeze {X : Cx} {pins : List (Addr × Obj)} {s : Shared} {v : V} {r : Rs} {x : D} (hK : X.K = K) (I : Inv X pins σ H s) (p : EPost K ρ0 σ H0 ρ H v r) (h : fz r ρ = some (x, ρ1)) :
    ∃ H', Inv X pins σ H' s ∧ EPost K ρ0 σ H0 ρ1 H' v (.d x) := by
  cases r with
  | d y =>
    cases h
    exact ⟨H, I, p.mid.post p.at_ trivial⟩
  | new xs =>
    dsimp only [fz] at h
    split at h
    case isFalse => cases h
    rename_i bk
    cases h
    obtain ⟨a, vs, ea, hl, rs, n⟩ := p.at_
    obtain ⟨o, I'⟩ := inv_freeze I hl rs.mu
    have hf : H0 a = none := p.fresh a ea
    have pr : Pers H (upd H a (.frz o vs)) := pers_mut hl rs.mu
    refine ⟨_, I', ⟨p.sim.heap pr fun b ws hb e => ?_, fun b u e nb => ?_, fun b e => p.grow b (grow_upd b e), p.sub, p.dom, ?_, trivial⟩⟩
    · rw [upd_ne (by rintro rfl; exact n hb)]; exact e
    · rw [upd_ne (ne_of_none e hf)]; exact p.keep b u e nb
    · subst ea
      exact (rs.pers pr).rep upd_same bk
  | scr xs => cases h
  | var i =>
    obtain ⟨es, vl, el⟩ := p.at_
    unfold fz at h
    simp only [el] at h
    cases vl with
    | scr xs => cases h
    | d y =>
      cases h
      obtain ⟨v', e1, rv⟩ := p.sim.rep i _ el
      rw [es] at e1; cases e1
      exact ⟨H, I, p.mid.post rv trivial⟩
    | own xs =>
      simp only at h
      split at h
      case isFalse => cases h
      rename_i bk
      cases h
      obtain ⟨v', e1, a, vs, ea, hl, rs⟩ := p.sim.rep i _ el
      rw [es] at e1; cases e1
      subst ea
      obtain ⟨o, I'⟩ := inv_freeze I hl rs.mu
      have pr : Pers H (upd H a (.frz o vs)) := pers_mut hl rs.mu
      have hi := lk_lt el
      have how : Ow ρ σ a := ⟨i, ⟨_, el, rfl⟩, es⟩
      refine ⟨_, I', ⟨p.sim.frz el es hl rs bk, fun b u e nb => ?_, fun b e => p.grow b (grow_upd b e), fun b hb => ?_, fun j vl e => ?_, ?_, trivial⟩⟩
      · rw [upd_ne (by rintro rfl; exact nb (p.sub _ how))]; exact p.keep b u e nb
      · obtain ⟨j, _, q⟩ := ow_set hb
        exact p.sub b ⟨j, q⟩
      · obtain ⟨vl', e'⟩ := p.dom j vl e
        by_cases hj : i = j
        · subst hj; exact ⟨_, lk_set_self hi⟩
        · exact ⟨vl', by rw [lk_set_ne hj]; exact e'⟩
      · exact (rs.pers pr).rep upd_same bk
def mD (m : M) : M := fun ρ => (m ρ).bind fun (r, ρ1) => match fz r ρ1 with
  | some (x, ρ2) => .ok (.d x, ρ2)
  | none => .stuck
end
section
variable {X : Cx} {W : WX} {e : Expr}
theorem pe_mD {m : M} (h : PE X e (tOf X.K X.mg W m)) : PE X e (tOf X.K X.mg W (mD m)) := by
  refine PE.ghost h fun σ H Q ⟨ρ, S, q⟩ => ?_
  unfold mD at q
  cases e1 : m ρ with
  | stuck => rw [e1] at q; exact q.elim
  | exc x =>
    rw [e1] at q
    exact ⟨fun _ _ => False, ⟨ρ, S, by rw [e1]; exact q⟩, fun _ _ _ _ _ _ _ z => z.elim⟩
  | ok p =>
    obtain ⟨r, ρ1⟩ := p
    rw [e1] at q
    simp only [Ot.bind] at q
    cases e2 : fz r ρ1 with
    | none => rw [e2] at q; exact q.elim
    | some p2 =>
      obtain ⟨x, ρ2⟩ := p2
      rw [e2] at q
      refine ⟨fun v H1 => EPost X.K ρ σ H ρ1 H1 v r, ⟨ρ, S, by rw [e1]; exact fun v H' p => p⟩, fun pins v u H1 s1 I1 r1 p => ?_⟩
      obtain ⟨H', I', p'⟩ := freeze rfl I1 p e2
      exact ⟨v, H', I', r1, q v H' p'⟩
def mK (x : D) : M := fun ρ => .ok (.d x, ρ)
theorem tOf_mK {v : V} {x : D} (r : ∀ H, RepD X.K H v x) : ∀ σ H Q, tOf X.K X.mg W (mK x) σ H Q → tC v σ H Q := fun σ H Q ⟨ρ, S, q⟩ => q v H (EPost.refl S (r H) trivial)
theorem pe_mint {i j pos} : PE X (.Constant (.int i) j pos) (tOf X.K X.mg W (mK (.int i))) := PE.weak pe_int (tOf_mK fun _ => .int i)
theorem pe_mbl {b j pos} : PE X (.Constant (.bool b) j pos) (tOf X.K X.mg W (mK (.bool b))) := PE.weak pe_bl (tOf_mK fun _ => .bool b)
theorem pe_mnon {j pos} : PE X (.Constant .none j pos) (tOf X.K X.mg W (mK .none)) := PE.weak pe_non (tOf_mK fun _ => .none)
theorem pe_mstr {x j pos} : PE X (.Constant (.str x) j pos) (tOf X.K X.mg W (mK (.str x))) := PE.weak pe_str (tOf_mK fun _ => .str x)
/-- a module's constant -/
theorem pe_mglob {x : Str} {v : V} {u : Value} {d : D} {pos : Pos} (hg : Gl X x) (hm : X.mg x = some u) (r : RelV v u) (rd : ∀ H, RepD X.K H v d) (hd : (x == ("__debug__" : Str)) = false) : PE X (.Name x pos) (tOf X.K X.mg W (mK d)) :=
  PE.weak (pe_glob hg hm r hd) (tOf_mK rd)
def mV (i : Nat) : M := fun ρ => match lk ρ i with
  | some (.d x) => .ok (.d x, ρ)
  | some (.own _) => .ok (.var i, ρ)
  | some (.scr xs) => .ok (.scr xs, ρ)
  | none => .stuck
theorem pe_mV {i : Nat} {x : Str} {pos : Pos} (hN : X.N[i]? = some x) (hv : Vis X.env.scope x) (hd : (x == ("__debug__" : Str)) = false) (hcd : (x == ("__classdict__" : Str)) = false) : PE X (.Name x pos) (tOf X.K X.mg W (mV i)) := by
  refine PE.weak (pe_var hN hv hd hcd) fun σ H Q ⟨ρ, S, q⟩ => ?_
  unfold mV at q
  cases e : lk ρ i with
  | none => rw [e] at q; exact q.elim
  | some vl =>
    rw [e] at q
    obtain ⟨v, e1, r⟩ := S.rep i vl e
    refine ⟨v, e1, ?_⟩
    cases vl with
    | d x => exact q v H (EPost.refl S r trivial)
    | own xs => exact q v H (EPost.refl S ⟨e1, _, e⟩ trivial)
    | scr xs => exact q v H (EPost.refl S r trivial)
end
end Mp
set_option maxHeartbeats 1000000
/-! Mp4: operators on data. -/
namespace Mp
open PySem PySem.Spec PyProof.Rows L2
/-- v stands for x, a list perhaps of one name's own -/
def RepP (K : PySem.W.Frag) (H : Hp) (v : V) (x : D) : Prop := RepD K H v x ∨ ∃ a o b, v = .ref a ∧ H a = some o ∧ BxAt K H o b ∧ x = b.x ∧ b.ok = true
inductive RepPs (K : PySem.W.Frag) (H : Hp) : List V → List D → Prop
  | nil : RepPs K H [] []
  | cons {v vs d ds} : RepP K H v d → RepPs K H vs ds → RepPs K H (v :: vs) (d :: ds)
/-- what stands where a name's list may be -/
def pk (ρ : Env) : Rs → Option D
  | .d x => some x
  | .new b => if b.ok then some b.x else none
  | .var i => match lk ρ i with
    | some (.own b) => if b.ok then some b.x else none
    | some (.d x) => some x
    | _ => none
  | .scr _ => none
/-- what an operation gives: a datum, a new list, a new tuple -/
inductive Res where
  | d (x : D)
  | lst (zs : List D)
  | tup (zs : List D)
def Res.rs : Res → Rs
  | .d x => .d x
  | .lst zs => .new (.lst zs)
  | .tup zs => .d (.tuple zs)
def ResOk (K : PySem.W.Frag) (H : Hp) (Q : VK) : Res → Prop
  | .d x => ∀ v, RepD K H v x → Q v H
  | .lst zs => ∀ p vs, H p = none → RepDs K H vs zs → Q (.ref p) (upd H p (.lst vs))
  | .tup zs => (∀ p vs, H p = none → RepDs K H vs zs → Q (.ref p) (upd H p (.tup vs))) ∧ ∀ v, RepD K H v (.tuple zs) → Q v H
section
variable {K : PySem.W.Frag} {mg : Str → Option Value} {W : WX} {ρ0 ρ ρ1 ρ2 : Env} {σ : L2.St} {H0 H H1 H2 : Hp} {Q Q' : VK}
theorem pk_rep {v : V} {r : Rs} {x : D} (S : Sim K ρ σ H) (a : RsAt K ρ σ H v r) (h : pk ρ r = some x) : RepP K H v x := by
  cases r with
  | d y => cases h; exact .inl a
  | new b =>
    dsimp only [pk] at h
    split at h
    case isFalse => cases h
    rename_i bk
    cases h
    obtain ⟨c, o, e, hl, rs, _⟩ := a
    exact .inr ⟨c, o, b, e, hl, rs, rfl, bk⟩
  | scr xs => cases h
  | var i =>
    obtain ⟨es, vl, el⟩ := a
    unfold pk at h
    simp only [el] at h
    obtain ⟨v', e1, rv⟩ := S.rep i _ el
    rw [es] at e1; cases e1
    cases vl with
    | scr xs => cases h
    | d y => cases h; exact .inl rv
    | own b =>
      simp only at h
      split at h
      case isFalse => cases h
      rename_i bk
      cases h
      obtain ⟨c, o, e, hl, rs⟩ := rv
      exact .inr ⟨c, o, b, e, hl, rs, rfl, bk⟩
theorem res_post {res : Res} (S : Sim K ρ σ H) (m : Mid K ρ0 σ H0 ρ H) (q : ∀ v H', EPost K ρ0 σ H0 ρ H' v res.rs → Q v H') : ResOk K H Q res := by
  cases res with
  | d x => exact fun v r => q v H (m.post r trivial)
  | lst zs =>
    intro p vs hp r
    refine q _ _ ((m.trans (Mid.updN S hp)).post ⟨p, .lst vs, rfl, upd_same, RepDs.pers (pers_upd hp) r, S.not_ow hp⟩ fun a e => ?_)
    cases e
    exact m.grow _ hp
  | tup zs =>
    refine ⟨fun p vs hp r => ?_, fun v r => q v H (m.post r trivial)⟩
    exact q _ _ ((m.trans (Mid.updN S hp)).post (.tup (.inl (.inl upd_same)) (RepDs.pers (pers_upd hp) r)) trivial)
theorem Bx.x_l {b : Bx} {ds : List D} (h : .list ds = b.x) : b = .lst ds := by
  cases b <;> cases h
  rfl
theorem RepP.sq {v : V} {ds : List D} (h : RepP K H v (.list ds)) : ∃ a vs, v = .ref a ∧ SqL K H a vs ∧ RepDs K H vs ds := by
  rcases h with h | ⟨a, o, b, e, hl, rs, ed, bk⟩
  · cases h with
    | lst hq rs => exact ⟨_, _, rfl, hq.sq, rs⟩
  · cases Bx.x_l ed
    obtain ⟨vs, eo, rs⟩ := rs.l
    subst eo
    exact ⟨a, vs, e, .inl (.inl hl), rs⟩
theorem RepP.tp {v : V} {ds : List D} (h : RepP K H v (.tuple ds)) : ∃ a vs, v = .ref a ∧ SqT K H a vs ∧ RepDs K H vs ds := by
  rcases h with h | ⟨a, o, b, e, hl, rs, ed, bk⟩
  · cases h with
    | tup hq rs => exact ⟨_, _, rfl, hq, rs⟩
  · cases b <;> cases ed
theorem RepP.i {v : V} {i : Int} (h : RepP K H v (.int i)) : v = .int i := by
  rcases h with h | ⟨a, o, b, e, hl, rs, ed, bk⟩
  · cases h; rfl
  · cases b <;> cases ed
theorem RepP.b {v : V} {i : Bool} (h : RepP K H v (.bool i)) : v = .bl i := by
  rcases h with h | ⟨a, o, b, e, hl, rs, ed, bk⟩
  · cases h; rfl
  · cases b <;> cases ed
theorem RepP.s {v : V} {i : Str} (h : RepP K H v (.str i)) : v = .str i := by
  rcases h with h | ⟨a, o, b, e, hl, rs, ed, bk⟩
  · cases h; rfl
  · cases b <;> cases ed
theorem RepP.n {v : V} (h : RepP K H v .none) : v = .non := by
  rcases h with h | ⟨a, o, b, e, hl, rs, ed, bk⟩
  · cases h; rfl
  · cases b <;> cases ed
/-- what it reads as -/
theorem BxAt.reads {P : Program} {w : World} {h : Heap} {a : Addr} {o : HO} {b : Bx} (ok : HOk P w H h) (k : K.In h) (e : H a = some o) (r : BxAt K H o b) (bk : b.ok = true) : ∃ as, Reads h (.ref a) b.x as := by
  obtain ⟨q, eq⟩ := obj_some (ok a _ e) r.mu
  have ok2 : HOk P w (upd H a (.frz q o)) h := by
    refine HOk.write (x := a) (e := a) ok (by rw [e]; exact r.mu.mut) (.inl rfl) (fun _ _ _ z => z) ⟨_, eq⟩ ⟨eq, (ok a _ e).stay (fun _ _ _ q => q) (fun b q => ?_) (fun b xs q => ?_)⟩
    · rw [upd_ne (by rintro rfl; rw [e] at q; cases q; exact r.mu)]; exact q
    · rw [upd_ne (by rintro rfl; rw [e] at q; cases q; exact r.mu)]; exact q
  exact RepD.reads ok2 k ((r.pers (pers_mut e r.mu)).rep upd_same bk) rfl
theorem RepP.reads {P : Program} {w : World} {h : Heap} {v : V} {x : D} {u : Value} (ok : HOk P w H h) (k : K.In h) (r : RepP K H v x) (q : RelV v u) : ∃ as, Reads h u x as := by
  rcases r with r | ⟨a, o, b, e, hl, rs, ed, bk⟩
  · exact RepD.reads ok k r q
  · subst e; subst ed
    cases q
    exact rs.reads ok k hl bk
end
/-! ### two operands -/
def rD2 (K : PySem.W.Frag) (g : D → D → Option Res) : R2 := fun x y H Q => ∃ dx dy res, RepP K H x dx ∧ RepP K H y dy ∧ g dx dy = some res ∧ ResOk K H Q res
def mOp2 (g : D → D → Option Res) (a b : M) : M := fun ρ => (a ρ).bind fun (r1, ρ1) => (b ρ1).bind fun (r2, ρ2) =>
  match pk ρ2 r1, pk ρ2 r2 with
  | some x, some y => match g x y with
    | some res => .ok (res.rs, ρ2)
    | none => .stuck
  | _, _ => .stuck
section
variable {X : Cx} {W : WX} {a b : Expr} {pos : Pos} {ma mb : M}
theorem tOf_op2 {K : PySem.W.Frag} {mg : Str → Option Value} {g : D → D → Option Res} {σ : L2.St} {H : Hp} {Q : VK} (h : tOf K mg W (mOp2 g ma mb) σ H Q) : tOp (rD2 K g) (tOf K mg W ma) (tOf K mg W mb) σ H Q := by
  obtain ⟨ρ, S, q⟩ := h
  unfold mOp2 at q
  refine ⟨ρ, S, ?_⟩
  cases e1 : ma ρ with
  | stuck => rw [e1] at q; exact q.elim
  | exc x => rw [e1] at q; exact q
  | ok p =>
    obtain ⟨r1, ρ1⟩ := p
    rw [e1] at q
    simp only [Ot.bind] at q
    intro x H1 p1
    refine ⟨ρ1, p1.sim, ?_⟩
    cases e2 : mb ρ1 with
    | stuck => rw [e2] at q; exact q.elim
    | exc x =>
      rw [e2] at q
      exact fun cls d H' ex k => q cls d H' ex (p1.keep.trans k fun c z => .inl (p1.sub c z))
    | ok p =>
      obtain ⟨r2, ρ2⟩ := p
      rw [e2] at q
      simp only at q
      intro y H2 p2
      have a1 := RsAt.mid p1.sim p1.at_ p2.mid
      cases k1 : pk ρ2 r1 with
      | none => rw [k1] at q; exact q.elim
      | some dx =>
        cases k2 : pk ρ2 r2 with
        | none => rw [k1, k2] at q; exact q.elim
        | some dy =>
          rw [k1, k2] at q
          simp only at q
          cases eg : g dx dy with
          | none => rw [eg] at q; exact q.elim
          | some res =>
            rw [eg] at q
            exact ⟨dx, dy, res, pk_rep p2.sim a1 k1, pk_rep p2.sim p2.at_ k2, eg, res_post p2.sim (p1.mid.trans p2.mid) q⟩
theorem pe_mbin {op : Operator} {g : D → D → Option Res} (ho : OpR X (binaryOp op) (rD2 X.K g)) (ha : PE X a (tOf X.K X.mg W ma)) (hb : PE X b (tOf X.K X.mg W mb)) : PE X (.BinOp a op b pos) (tOf X.K X.mg W (mOp2 g ma mb)) :=
  PE.weak (pe_op ho ha hb) fun _ _ _ => tOf_op2
theorem pe_mcmp {op : CmpOp} {g : D → D → Option Res} (ho : OpR X (compareOp op) (rD2 X.K g)) (hm : behindInMarks op b = false) (ha : PE X a (tOf X.K X.mg W ma)) (hb : PE X b (tOf X.K X.mg W mb)) : PE X (.Compare a [op] [b] pos) (tOf X.K X.mg W (mOp2 g ma mb)) :=
  PE.weak (pe_cmpR ho ha hb hm) fun _ _ _ => tOf_op2
end
/-! ### the operations -/
def bigI (i : Int) : Bool := decide (i.natAbs < 2 ^ 64)
def gAdd : D → D → Option Res
  | .int i, .int j => some (.d (.int (i + j)))
  | .str x, .str y => if x.length + y.length ≤ sizeLine then some (.d (.str (x ++ y))) else none
  | .tuple xs, .tuple ys => if xs.length + ys.length ≤ sizeLine then some (.tup (xs ++ ys)) else none
  | .list xs, .list ys => if xs.length + ys.length ≤ sizeLine then some (.lst (xs ++ ys)) else none
  | _, _ => none
def gSub : D → D → Option Res
  | .int i, .int j => some (.d (.int (i - j)))
  | _, _ => none
def gMul : D → D → Option Res
  | .int i, .int j => if bigI i || bigI j then some (.d (.int (i * j))) else none
  | .list xs, .int j => if j.natAbs < 2 ^ 62 && decide (xs.length * j.toNat ≤ sizeLine) then some (.lst (List.replicate j.toNat xs).flatten) else none
  | .tuple xs, .int j => if j.natAbs < 2 ^ 62 && decide (xs.length * j.toNat ≤ sizeLine) then some (.tup (List.replicate j.toNat xs).flatten) else none
  | _, _ => none
def gDiv : D → D → Option Res
  | .int i, .int j => if 0 < j && decide (j < 1073741824) then some (.d (.int (i / j))) else none
  | _, _ => none
def gMod : D → D → Option Res
  | .int i, .int j => if 0 < j then some (.d (.int (i % j))) else none
  | _, _ => none
def gPow : D → D → Option Res
  | .int i, .int j => if 0 ≤ j && decide (j ≤ 1000000) && bigI i then some (.d (.int (i ^ j.toNat))) else none
  | _, _ => none
end Mp
set_option maxHeartbeats 1000000
/-! Mp5: the operators' rules. -/
namespace Mp
open PySem PySem.Spec PyProof.Rows L2
theorem RepP.ls {K : PySem.W.Frag} {H : Hp} {v : V} {ds : List D} (h : RepP K H v (.list ds)) : ∃ a vs, v = .ref a ∧ Rd H a (.lst vs) ∧ RepDs K H vs ds := by
  rcases h with h | ⟨a, o, b, e, hl, rs, ed, bk⟩
  · cases h with
    | lst hq rs => exact ⟨_, _, rfl, .inr hq, rs⟩
  · cases Bx.x_l ed
    obtain ⟨vs, eo, rs⟩ := rs.l
    subst eo
    exact ⟨a, vs, e, .inl hl, rs⟩
theorem RepDs.flat {K : PySem.W.Frag} {H : Hp} {vs : List V} {xs : List D} (r : RepDs K H vs xs) : ∀ n : Nat, RepDs K H (List.replicate n vs).flatten (List.replicate n xs).flatten
  | 0 => .nil
  | n + 1 => by
    rw [List.replicate_succ, List.flatten_cons, List.replicate_succ, List.flatten_cons]
    exact r.append (RepDs.flat r n)
/-- what an operation needs of the place where it stands -/
structure Rm (A : Around) : Prop where
  hd : A.handled = none
  un : A.units + 300 < cLine
  gd : A.guards = some []
section
variable {X : Cx}
theorem bigI_ok {i : Int} (h : bigI i = true) : -(2 ^ 64) < i ∧ i < 2 ^ 64 := by
  unfold bigI at h
  simp only [decide_eq_true_eq] at h
  omega
theorem rd_obj {pins : List (Addr × Obj)} {σ : L2.St} {H : Hp} {s : Shared} {a : Addr} {xs : List V} (I : Inv X pins σ H s) (h : Rd H a (.lst xs)) :
    xs.length ≤ sizeLine ∧ ∃ (its : List Value) (n : Nat), Vals xs its ∧ xs.length = its.length ∧ s.heap.get? a = some { cls := .type "list", data := .seq its.toArray n } := by
  obtain ⟨z, its, n, r, e⟩ := h.ok I.hok
  exact ⟨z, its, n, r, r.length, e⟩
theorem op_catL {pins : List (Addr × Obj)} {s : Shared} {σ : L2.St} {H : Hp} {Q : VK} {l b : Addr} {xs zs : List V} {v u : Value} (I : Inv X pins σ H s) (rx : RelV (.ref l) v) (ry : RelV (.ref b) u) (hH : Rd H l (.lst xs)) (hB : Rd H b (.lst zs)) (hz : xs.length + zs.length ≤ sizeLine)
    (q : ∀ p, H p = none → Q (.ref p) (upd H p (.lst (xs ++ zs)))) : wpAny (model X.prog X.w) X.A (binaryOp .Add v u) (EP X pins σ Q) X.xe s := by
  cases rx
  cases ry
  obtain ⟨z, its, n, r, hl, e⟩ := rd_obj I hH
  obtain ⟨z2, its2, n2, r2, hl2, e2⟩ := rd_obj I hB
  refine PySem.P.add_list e e2 ?_ (by simp only [List.size_toArray]; omega)
  have ea : its.toArray ++ its2.toArray = (its ++ its2).toArray := by simp
  rw [ea]
  exact ⟨.ref _, _, I.lnew (t' := s.toks) (r.append r2) (by rw [List.length_append]; omega), rfl, q _ I.fresh⟩
theorem og_add : OpR X (binaryOp .Add) (rD2 X.K gAdd) := by
  intro pins s σ H x y v u Q I rx ry ⟨dx, dy, res, px, py, eg, q⟩
  cases dx <;> cases dy <;> try (cases eg; done)
  case int.int i j =>
    cases eg
    have e1 := px.i; have e2 := py.i
    subst e1; subst e2
    exact op_add pins s σ H _ _ v u Q I rx ry ⟨i, j, rfl, rfl, q _ (.int _)⟩
  case str.str i j =>
    have e1 := px.s; have e2 := py.s
    subst e1; subst e2
    dsimp only [gAdd] at eg
    split at eg
    · cases eg
      exact op_add_str pins s σ H _ _ v u Q I rx ry ⟨i, j, rfl, rfl, by assumption, q _ (.str _)⟩
    · cases eg
  case list.list i j =>
    dsimp only [gAdd] at eg
    split at eg
    · cases eg
      obtain ⟨a, xs, rfl, ha, r1⟩ := px.ls
      obtain ⟨b, ys, rfl, hb, r2⟩ := py.ls
      exact op_catL I rx ry ha hb (by rw [r1.length, r2.length]; assumption) fun p hp => q p _ hp (r1.append r2)
    · cases eg
  case tuple.tuple i j =>
    dsimp only [gAdd] at eg
    split at eg
    · cases eg
      obtain ⟨a, xs, rfl, ha, r1⟩ := px.tp
      obtain ⟨b, ys, rfl, hb, r2⟩ := py.tp
      refine op_catA pins s σ H _ _ v u Q I rx ry ⟨a, b, xs, ys, rfl, rfl, ha, hb, by rw [r1.length, r2.length]; assumption, fun e => ?_, fun _ e => ?_, fun _ _ p hp => q.1 p _ hp (r1.append r2)⟩
      · subst e
        cases r1
        exact q.2 _ (.tup hb r2)
      · subst e
        cases r2
        rw [List.append_nil] at q
        exact q.2 _ (.tup ha r1)
    · cases eg
theorem og_sub : OpR X (binaryOp .Sub) (rD2 X.K gSub) := by
  intro pins s σ H x y v u Q I rx ry ⟨dx, dy, res, px, py, eg, q⟩
  cases dx <;> cases dy <;> try (cases eg; done)
  cases eg
  have e1 := px.i; have e2 := py.i
  subst e1; subst e2
  exact op_sub pins s σ H _ _ v u Q I rx ry ⟨_, _, rfl, rfl, q _ (.int _)⟩
theorem og_div : OpR X (binaryOp .FloorDiv) (rD2 X.K gDiv) := by
  intro pins s σ H x y v u Q I rx ry ⟨dx, dy, res, px, py, eg, q⟩
  cases dx <;> cases dy <;> try (cases eg; done)
  dsimp only [gDiv] at eg
  split at eg
  · rename_i hc
    simp only [Bool.and_eq_true, decide_eq_true_eq] at hc
    cases eg
    have e1 := px.i; have e2 := py.i
    subst e1; subst e2
    exact op_fdiv pins s σ H _ _ v u Q I rx ry ⟨_, _, rfl, rfl, hc, q _ (.int _)⟩
  · cases eg
theorem og_mod : OpR X (binaryOp .Mod) (rD2 X.K gMod) := by
  intro pins s σ H x y v u Q I rx ry ⟨dx, dy, res, px, py, eg, q⟩
  cases dx <;> cases dy <;> try (cases eg; done)
  dsimp only [gMod] at eg
  split at eg
  · cases eg
    have e1 := px.i; have e2 := py.i
    subst e1; subst e2
    exact op_mod pins s σ H _ _ v u Q I rx ry ⟨_, _, rfl, rfl, by assumption, q _ (.int _)⟩
  · cases eg
theorem og_pow : OpR X (binaryOp .Pow) (rD2 X.K gPow) := by
  intro pins s σ H x y v u Q I rx ry ⟨dx, dy, res, px, py, eg, q⟩
  cases dx <;> cases dy <;> try (cases eg; done)
  dsimp only [gPow] at eg
  split at eg
  · rename_i hc
    simp only [Bool.and_eq_true, decide_eq_true_eq] at hc
    cases eg
    have e1 := px.i; have e2 := py.i
    subst e1; subst e2
    exact op_pow pins s σ H _ _ v u Q I rx ry ⟨_, _, rfl, rfl, ⟨hc.1.1, hc.1.2, by have := hc.2; unfold bigI at this; simpa using this⟩, q _ (.int _)⟩
  · cases eg
theorem rep_tup {t : Addr} {k : Int} {tk : Tok} {its : List Value} {pins : List (Addr × Obj)} {s : Shared} {σ : L2.St} {H : Hp} : True := trivial
end
end Mp
set_option maxHeartbeats 1000000
/-! Mp6: products, comparisons. -/
namespace Mp
open PySem PySem.Spec PyProof.Rows L2
def gMulI : D → D → Option Res
  | .int i, .int j => if bigI i || bigI j then some (.d (.int (i * j))) else none
  | .tuple xs, .int j => if 2 ≤ j && decide (j ≤ 1000) && decide (xs.length ≤ 1000) && !xs.isEmpty then some (.tup (List.replicate j.toNat xs).flatten) else none
  | _, _ => none
section
variable {X : Cx}
theorem og_mulI : OpR X (binaryOp .Mult) (rD2 X.K gMulI) := by
  intro pins s σ H x y v u Q I rx ry ⟨dx, dy, res, px, py, eg, q⟩
  cases dx <;> cases dy <;> try (cases eg; done)
  case int.int i j =>
    dsimp only [gMulI] at eg
    split at eg
    · rename_i hc
      cases eg
      have e1 := px.i; have e2 := py.i
      subst e1; subst e2
      refine op_mul pins s σ H _ _ v u Q I rx ry ⟨_, _, rfl, rfl, ?_, q _ (.int _)⟩
      rcases (Bool.or_eq_true _ _).mp hc with z | z
      · exact .inl (bigI_ok z)
      · exact .inr (bigI_ok z)
    · cases eg
  case tuple.int xs j =>
    dsimp only [gMulI] at eg
    split at eg
    · rename_i hc
      simp only [Bool.and_eq_true, decide_eq_true_eq, Bool.not_eq_true'] at hc
      obtain ⟨⟨⟨h1, h2⟩, h3⟩, h4⟩ := hc
      cases eg
      obtain ⟨a, vs, rfl, ha, r1⟩ := px.tp
      have e2 := py.i
      subst e2
      refine op_repT pins s σ H _ _ v u Q I rx ry ⟨a, j, vs, rfl, rfl, ha, ?_, h1, h2, by rw [r1.length]; exact h3, fun p hp => q.1 p _ hp (r1.flat _)⟩
      rintro rfl
      cases r1
      simp at h4
    · cases eg
end
/-! ### comparisons -/
def shal (d : D) : Bool := decide (d.depth ≤ 100)
def gEq : D → D → Option Res := fun x y => if x.plain && y.plain && shal x then some (.d (.bool (PyData.eqv x y))) else none
def gNe : D → D → Option Res := fun x y => if x.plain && y.plain && shal x then some (.d (.bool (!PyData.eqv x y))) else none
def okCmp (x y : D) : Bool := W.alike x y && shal x && (match x with | .none => false | _ => true)
def gLt : D → D → Option Res := fun x y => if okCmp x y then some (.d (.bool (W.dataLt x y))) else none
def gGt : D → D → Option Res := fun x y => if okCmp x y then some (.d (.bool (W.dataLt y x))) else none
def gLe : D → D → Option Res := fun x y => if okCmp x y then some (.d (.bool (!W.dataLt y x))) else none
def gGe : D → D → Option Res := fun x y => if okCmp x y then some (.d (.bool (!W.dataLt x y))) else none
def gIn : D → D → Option Res := fun x c => match c with
  | .list xs => if PyData.plainAll xs && x.plain && shal x then some (.d (.bool (xs.any fun y => PyData.eqv y x))) else none
  | .tuple xs => if PyData.plainAll xs && x.plain && shal x then some (.d (.bool (xs.any fun y => PyData.eqv y x))) else none
  | _ => none
def gNotIn : D → D → Option Res := fun x c => match c with
  | .list xs => if PyData.plainAll xs && x.plain && shal x then some (.d (.bool (!xs.any fun y => PyData.eqv y x))) else none
  | .tuple xs => if PyData.plainAll xs && x.plain && shal x then some (.d (.bool (!xs.any fun y => PyData.eqv y x))) else none
  | _ => none
section
variable {X : Cx}
theorem rP {pins : List (Addr × Obj)} {s : Shared} {σ : L2.St} {H : Hp} {v : V} {u : Value} {x : D} (I : Inv X pins σ H s) (p : RepP X.K H v x) (r : RelV v u) : ∃ as, Reads s.heap u x as := p.reads I.hok I.kIn r
theorem fin_b {pins : List (Addr × Obj)} {s : Shared} {σ : L2.St} {H : Hp} {Q : VK} {b : Bool} (I : Inv X pins σ H s) (q : ResOk X.K H Q (.d (.bool b))) : EP X pins σ Q (.bool b) s := ⟨.bl b, H, I, rfl, q _ (.bool b)⟩
theorem og_eq (rm : Rm X.A) : OpR X (compareOp .Eq) (rD2 X.K gEq) := by
  intro pins s σ H x y v u Q I rx ry ⟨dx, dy, res, px, py, eg, q⟩
  unfold gEq at eg
  split at eg
  · rename_i hc
    simp only [Bool.and_eq_true, shal, decide_eq_true_eq] at hc
    cases eg
    obtain ⟨as, r1⟩ := rP I px rx
    obtain ⟨bs, r2⟩ := rP I py ry
    exact SeqAt.eq_plain r1 r2 hc.1.1 hc.1.2 (by have := rm.un; omega) (fin_b I q)
  · cases eg
theorem og_ne (rm : Rm X.A) : OpR X (compareOp .NotEq) (rD2 X.K gNe) := by
  intro pins s σ H x y v u Q I rx ry ⟨dx, dy, res, px, py, eg, q⟩
  unfold gNe at eg
  split at eg
  · rename_i hc
    simp only [Bool.and_eq_true, shal, decide_eq_true_eq] at hc
    cases eg
    obtain ⟨as, r1⟩ := rP I px rx
    obtain ⟨bs, r2⟩ := rP I py ry
    exact SeqAt.ne_plain r1 r2 hc.1.1 hc.1.2 (by have := rm.un; omega) (fin_b I q)
  · cases eg
theorem okCmp_ok {x y : D} (h : okCmp x y = true) : W.alike x y = true ∧ x.depth ≤ 100 ∧ x ≠ .none := by
  unfold okCmp shal at h
  simp only [Bool.and_eq_true, decide_eq_true_eq] at h
  refine ⟨h.1.1, h.1.2, ?_⟩
  rintro rfl
  exact Bool.noConfusion h.2
theorem og_lt (rm : Rm X.A) : OpR X (compareOp .Lt) (rD2 X.K gLt) := by
  intro pins s σ H x y v u Q I rx ry ⟨dx, dy, res, px, py, eg, q⟩
  unfold gLt at eg
  split at eg
  · rename_i hc
    obtain ⟨h1, h2, h3⟩ := okCmp_ok hc
    cases eg
    obtain ⟨as, r1⟩ := rP I px rx
    obtain ⟨bs, r2⟩ := rP I py ry
    exact W.lt_data r1 r2 h1 h3 (by have := rm.un; omega) (fin_b I q)
  · cases eg
theorem og_gt (rm : Rm X.A) : OpR X (compareOp .Gt) (rD2 X.K gGt) := by
  intro pins s σ H x y v u Q I rx ry ⟨dx, dy, res, px, py, eg, q⟩
  unfold gGt at eg
  split at eg
  · rename_i hc
    obtain ⟨h1, h2, h3⟩ := okCmp_ok hc
    cases eg
    obtain ⟨as, r1⟩ := rP I px rx
    obtain ⟨bs, r2⟩ := rP I py ry
    exact W.gt_data r1 r2 h1 h3 (by have := rm.un; omega) (fin_b I q)
  · cases eg
theorem og_le (rm : Rm X.A) : OpR X (compareOp .LtE) (rD2 X.K gLe) := by
  intro pins s σ H x y v u Q I rx ry ⟨dx, dy, res, px, py, eg, q⟩
  unfold gLe at eg
  split at eg
  · rename_i hc
    obtain ⟨h1, h2, h3⟩ := okCmp_ok hc
    cases eg
    obtain ⟨as, r1⟩ := rP I px rx
    obtain ⟨bs, r2⟩ := rP I py ry
    exact W.le_data r1 r2 h1 h3 (by have := rm.un; omega) (fin_b I q)
  · cases eg
theorem og_ge (rm : Rm X.A) : OpR X (compareOp .GtE) (rD2 X.K gGe) := by
  intro pins s σ H x y v u Q I rx ry ⟨dx, dy, res, px, py, eg, q⟩
  unfold gGe at eg
  split at eg
  · rename_i hc
    obtain ⟨h1, h2, h3⟩ := okCmp_ok hc
    cases eg
    obtain ⟨as, r1⟩ := rP I px rx
    obtain ⟨bs, r2⟩ := rP I py ry
    exact W.ge_data r1 r2 h1 h3 (by have := rm.un; omega) (fin_b I q)
  · cases eg
theorem og_in (rm : Rm X.A) : OpR X (compareOp .In) (rD2 X.K gIn) := by
  intro pins s σ H x y v u Q I rx ry ⟨dx, dy, res, px, py, eg, q⟩
  obtain ⟨as, r1⟩ := rP I px rx
  obtain ⟨bs, r2⟩ := rP I py ry
  cases dy <;> try (cases eg; done)
  all_goals
    dsimp only [gIn] at eg
    split at eg
    · rename_i hc
      simp only [Bool.and_eq_true, shal, decide_eq_true_eq] at hc
      cases eg
      first
        | exact SeqAt.in_list_data r2 r1 hc.1.1 hc.1.2 (by have := rm.un; omega) (fin_b I q)
        | exact SeqAt.in_tuple_data r2 r1 hc.1.1 hc.1.2 (by have := rm.un; omega) (fin_b I q)
    · cases eg
theorem og_notIn (rm : Rm X.A) : OpR X (compareOp .NotIn) (rD2 X.K gNotIn) := by
  intro pins s σ H x y v u Q I rx ry ⟨dx, dy, res, px, py, eg, q⟩
  obtain ⟨as, r1⟩ := rP I px rx
  obtain ⟨bs, r2⟩ := rP I py ry
  cases dy <;> try (cases eg; done)
  all_goals
    dsimp only [gNotIn] at eg
    split at eg
    · rename_i hc
      simp only [Bool.and_eq_true, shal, decide_eq_true_eq] at hc
      cases eg
      first
        | exact SeqAt.notIn_list_data r2 r1 hc.1.1 hc.1.2 (by have := rm.un; omega) (fin_b I q)
        | exact SeqAt.notIn_tuple_data r2 r1 hc.1.1 hc.1.2 (by have := rm.un; omega) (fin_b I q)
    · cases eg
end
end Mp
set_option maxHeartbeats 1000000
/-! Mp7: truth: and, or, not, chains, tests, conditional expressions. -/
namespace Mp
open PySem PySem.Spec PyProof.Rows L2
def TOut (K : PySem.W.Frag) (mg : Str → Option Value) (W : WX) (ρ : Env) (σ : L2.St) (H : Hp) (Q : Bool → Hp → Prop) : Ot (Rs × Env) → Prop
  | .ok (.d (.bool b), ρ') => ∀ H', Mid K ρ σ H ρ' H' → Q b H'
  | .ok _ => False
  | .exc x => ∀ cls d H', ExOk K mg x cls d H' → Keep (Ow ρ σ) H H' → W cls d σ H'
  | .stuck => False
/-- the reading of a combinator as a test -/
def tT (K : PySem.W.Frag) (mg : Str → Option Value) (W : WX) (m : M) : TT := fun σ H Q => ∃ ρ, Sim K ρ σ H ∧ TOut K mg W ρ σ H Q (m ρ)
theorem PT.weak {X : Cx} {e : Expr} {t t' : TT} (h : PT X e t) (hw : ∀ σ H Q, t' σ H Q → t σ H Q) : PT X e t' := ⟨fun pins s σ H Q I q => h.run pins s σ H Q I (hw σ H Q q)⟩
theorem PW.weak {X : Cx} {e : Expr} {t t' : TT} (h : PW X e t) (hw : ∀ σ H Q, t' σ H Q → t σ H Q) : PW X e t' := ⟨fun wh pins s σ H Q I q => h.run wh pins s σ H Q I (hw σ H Q q)⟩
/-- a test's value: the datum True or False -/
def bo : Rs → Option Bool
  | .d (.bool b) => some b
  | _ => none
/-- by a truth: one of two ways -/
def mBr (f : Bool → M) (a : M) : M := fun ρ => (a ρ).bind fun p => match bo p.1 with
  | some b => f b p.2
  | none => .stuck
def mAnd (a b : M) : M := mBr (fun k => cond k b (mK (.bool false))) a
def mOr (a b : M) : M := mBr (fun k => cond k (mK (.bool true)) b) a
def mNot (a : M) : M := mBr (fun k => mK (.bool !k)) a
def mIf (c a b : M) : M := mBr (fun k => cond k a b) c
def mCh (g g' : D → D → Option Res) (a b c : M) : M := fun ρ => (a ρ).bind fun (r1, ρ1) => (b ρ1).bind fun (r2, ρ2) =>
  match pk ρ2 r1, pk ρ2 r2 with
  | some x, some y => match g x y with
    | some (.d (.bool true)) => (c ρ2).bind fun (r3, ρ3) => match pk ρ3 r2, pk ρ3 r3 with
      | some y, some z => match g' y z with
        | some (.d (.bool b)) => .ok (.d (.bool b), ρ3)
        | _ => .stuck
      | _, _ => .stuck
    | some (.d (.bool false)) => .ok (.d (.bool false), ρ2)
    | _ => .stuck
  | _, _ => .stuck
theorem bo_some {r : Rs} {b : Bool} (h : bo r = some b) : r = .d (.bool b) := by
  cases r with
  | d x => cases x <;> first | (cases h; done) | (cases h; rfl)
  | new _ => cases h
  | var _ => cases h
  | scr _ => cases h
section
variable {K : PySem.W.Frag} {mg : Str → Option Value} {W : WX} {ρ ρ1 : Env} {σ : L2.St} {H H1 : Hp} {m : M}
theorem repB {v : V} {b : Bool} (h : RsAt K ρ σ H v (.d (.bool b))) : v = .bl b := by
  cases (show RepD K H v (.bool b) from h); rfl
/-- behind an evaluation: another reading from there -/
theorem EOut.imp {Q Q1 : VK} {o : Ot (Rs × Env)} (q : EOut K mg W ρ σ H Q o) (h : ∀ x H1, Q x H1 → Q1 x H1) : EOut K mg W ρ σ H Q1 o := by
  cases o with
  | ok p => exact fun v H1 p1 => h v H1 (q v H1 p1)
  | exc x => exact q
  | stuck => exact q
theorem TOut.imp {Q Q1 : Bool → Hp → Prop} {o : Ot (Rs × Env)} (q : TOut K mg W ρ σ H Q o) (h : ∀ x H1, Q x H1 → Q1 x H1) : TOut K mg W ρ σ H Q1 o := by
  cases o with
  | ok p =>
    obtain ⟨r, ρ2⟩ := p
    cases r with
    | d x =>
      cases x with
      | bool b => exact fun H1 p1 => h b H1 (q H1 p1)
      | _ => exact q
    | _ => exact q
  | exc x => exact q
  | stuck => exact q
theorem EOut.after {Q : VK} {o : Ot (Rs × Env)} (m : Mid K ρ σ H ρ1 H1) (q : EOut K mg W ρ σ H Q o) : EOut K mg W ρ1 σ H1 Q o := by
  cases o with
  | ok p => exact fun v H' p' => q v H' (m.after p')
  | exc x => exact fun cls d H' e k => q cls d H' e (m.keep.trans k fun c z => .inl (m.sub c z))
  | stuck => exact q
theorem TOut.after {Q : Bool → Hp → Prop} {o : Ot (Rs × Env)} (m : Mid K ρ σ H ρ1 H1) (q : TOut K mg W ρ σ H Q o) : TOut K mg W ρ1 σ H1 Q o := by
  cases o with
  | ok p =>
    obtain ⟨r, ρ2⟩ := p
    cases r with
    | d x =>
      cases x with
      | bool b => exact fun H' p' => q H' (m.trans p')
      | _ => exact q
    | _ => exact q
  | exc x => exact fun cls d H' e k => q cls d H' e (m.keep.trans k fun c z => .inl (m.sub c z))
  | stuck => exact q
/-- a test from a value -/
theorem TOut.val {Q : Bool → Hp → Prop} {o : Ot (Rs × Env)} (q : TOut K mg W ρ σ H Q o) : EOut K mg W ρ σ H (fun x H1 => ∃ c, x = .bl c ∧ Q c H1) o := by
  cases o with
  | ok p =>
    obtain ⟨r, ρ2⟩ := p
    cases r with
    | d x =>
      cases x with
      | bool b => exact fun v H' p' => ⟨b, repB p'.at_, q H' p'.mid⟩
      | _ => exact q.elim
    | _ => exact q.elim
  | exc x => exact q
  | stuck => exact q
end
section
variable {X : Cx} {W : WX} {a b c : Expr} {pos : Pos} {ma mb mc : M}
/-- the first operand of a truth: then the rest by its outcome -/
theorem tOf_first {K : PySem.W.Frag} {mg : Str → Option Value} {σ : L2.St} {H : Hp} {Q : VK} {ρ : Env} {f : Bool → M} (S : Sim K ρ σ H)
    (q : EOut K mg W ρ σ H Q (mBr f ma ρ)) :
    tOf K mg W ma σ H fun x H1 => ∃ c, x = .bl c ∧ ∃ ρ1, Sim K ρ1 σ H1 ∧ EOut K mg W ρ1 σ H1 Q (f c ρ1) := by
  refine ⟨ρ, S, ?_⟩
  unfold mBr at q
  cases e1 : ma ρ with
  | stuck => rw [e1] at q; exact q.elim
  | exc x => rw [e1] at q; exact q
  | ok p =>
    obtain ⟨r, ρ1⟩ := p
    rw [e1] at q
    simp only [Ot.bind] at q
    cases e2 : bo r with
    | none => rw [e2] at q; exact q.elim
    | some k =>
      rw [e2] at q
      have er := bo_some e2
      subst er
      exact fun v H1 p => ⟨k, repB p.at_, ρ1, p.sim, q.after p.mid⟩
theorem tT_first {K : PySem.W.Frag} {mg : Str → Option Value} {σ : L2.St} {H : Hp} {Q : Bool → Hp → Prop} {ρ : Env} {f : Bool → M} (S : Sim K ρ σ H)
    (q : TOut K mg W ρ σ H Q (mBr f ma ρ)) :
    tT K mg W ma σ H fun c H1 => ∃ ρ1, Sim K ρ1 σ H1 ∧ TOut K mg W ρ1 σ H1 Q (f c ρ1) := by
  refine ⟨ρ, S, ?_⟩
  unfold mBr at q
  cases e1 : ma ρ with
  | stuck => rw [e1] at q; exact q.elim
  | exc x => rw [e1] at q; exact q
  | ok p =>
    obtain ⟨r, ρ1⟩ := p
    rw [e1] at q
    simp only [Ot.bind] at q
    cases e2 : bo r with
    | none => rw [e2] at q; exact q.elim
    | some k =>
      rw [e2] at q
      have er := bo_some e2
      subst er
      exact fun H1 p => ⟨ρ1, p.sim, q.after p⟩
theorem tT_firstE {K : PySem.W.Frag} {mg : Str → Option Value} {σ : L2.St} {H : Hp} {Q : VK} {ρ : Env} {f : Bool → M} (S : Sim K ρ σ H)
    (q : EOut K mg W ρ σ H Q (mBr f ma ρ)) :
    tT K mg W ma σ H fun c H1 => ∃ ρ1, Sim K ρ1 σ H1 ∧ EOut K mg W ρ1 σ H1 Q (f c ρ1) := by
  refine ⟨ρ, S, ?_⟩
  unfold mBr at q
  cases e1 : ma ρ with
  | stuck => rw [e1] at q; exact q.elim
  | exc x => rw [e1] at q; exact q
  | ok p =>
    obtain ⟨r, ρ1⟩ := p
    rw [e1] at q
    simp only [Ot.bind] at q
    cases e2 : bo r with
    | none => rw [e2] at q; exact q.elim
    | some k =>
      rw [e2] at q
      have er := bo_some e2
      subst er
      exact fun H1 p => ⟨ρ1, p.sim, q.after p⟩
theorem pe_mone {op} (ha : PE X a (tOf X.K X.mg W ma)) : PE X (.BoolOp op [a] pos) (tOf X.K X.mg W ma) := pe_one ha
theorem pe_mand {rest : List Expr} (ha : PE X a (tOf X.K X.mg W ma)) (hb : PE X (.BoolOp .And (b :: rest) pos) (tOf X.K X.mg W mb)) : PE X (.BoolOp .And (a :: b :: rest) pos) (tOf X.K X.mg W (mAnd ma mb)) := by
  refine PE.weak (pe_and ha hb) fun σ H Q ⟨ρ, S, q⟩ => ?_
  obtain ⟨ρ', S', h'⟩ := tOf_first S q
  refine ⟨ρ', S', h'.imp fun x H1 ⟨c, e, ρ1, S1, q1⟩ => ⟨c, e, ?_⟩⟩
  cases c with
  | true => exact ⟨ρ1, S1, q1⟩
  | false => exact q1 _ H1 (EPost.refl S1 (.bool false) trivial)
theorem pe_mor {rest : List Expr} (ha : PE X a (tOf X.K X.mg W ma)) (hb : PE X (.BoolOp .Or (b :: rest) pos) (tOf X.K X.mg W mb)) : PE X (.BoolOp .Or (a :: b :: rest) pos) (tOf X.K X.mg W (mOr ma mb)) := by
  refine PE.weak (pe_or ha hb) fun σ H Q ⟨ρ, S, q⟩ => ?_
  obtain ⟨ρ', S', h'⟩ := tOf_first S q
  refine ⟨ρ', S', h'.imp fun x H1 ⟨c, e, ρ1, S1, q1⟩ => ⟨c, e, ?_⟩⟩
  cases c with
  | false => exact ⟨ρ1, S1, q1⟩
  | true => exact q1 _ H1 (EPost.refl S1 (.bool true) trivial)
theorem pe_mnot (ha : PE X a (tOf X.K X.mg W ma)) : PE X (.UnaryOp .Not a pos) (tOf X.K X.mg W (mNot ma)) := by
  refine PE.weak (pe_not ha) fun σ H Q ⟨ρ, S, q⟩ => ?_
  obtain ⟨ρ', S', h'⟩ := tOf_first S q
  exact ⟨ρ', S', h'.imp fun x H1 ⟨c, e, ρ1, S1, q1⟩ => ⟨c, e, q1 _ H1 (EPost.refl S1 (.bool _) trivial)⟩⟩
theorem pe_mif (hc : PT X c (tT X.K X.mg W mc)) (ha : PE X a (tOf X.K X.mg W ma)) (hb : PE X b (tOf X.K X.mg W mb)) : PE X (.IfExp c a b pos) (tOf X.K X.mg W (mIf mc ma mb)) := by
  refine PE.weak (pe_ifExp hc ha hb) fun σ H Q ⟨ρ, S, q⟩ => ?_
  obtain ⟨ρ', S', h'⟩ := tT_firstE S q
  refine ⟨ρ', S', h'.imp fun k H1 ⟨ρ1, S1, q1⟩ => ?_⟩
  cases k with
  | true => exact ⟨ρ1, S1, q1⟩
  | false => exact ⟨ρ1, S1, q1⟩
/-! ### tests -/
theorem pt_mval (ha : PE X a (tOf X.K X.mg W ma)) (he : ∀ whole, isTrue a X.env whole = (do let v ← whole; standAt a.pos; holding [v] (truthy v))) : PT X a (tT X.K X.mg W ma) :=
  PT.weak (pt_val ha he) fun σ H Q ⟨ρ, S, q⟩ => ⟨ρ, S, q.val⟩
theorem pt_mcmp {op : CmpOp} {g : D → D → Option Res} (ho : OpR X (compareOp op) (rD2 X.K g)) (hm : behindInMarks op b = false) (ha : PE X a (tOf X.K X.mg W ma)) (hb : PE X b (tOf X.K X.mg W mb)) : PT X (.Compare a [op] [b] pos) (tT X.K X.mg W (mOp2 g ma mb)) :=
  PT.weak (pt_cmpR ho ha hb hm) fun σ H Q ⟨ρ, S, q⟩ => tOf_op2 (Q := fun x H1 => ∃ c, x = .bl c ∧ Q c H1) ⟨ρ, S, q.val⟩
theorem pt_mnot (ha : PT X a (tT X.K X.mg W ma)) : PT X (.UnaryOp .Not a pos) (tT X.K X.mg W (mNot ma)) := by
  refine PT.weak (pt_not ha) fun σ H Q ⟨ρ, S, q⟩ => ?_
  obtain ⟨ρ', S', h'⟩ := tT_first S q
  exact ⟨ρ', S', h'.imp fun k H1 ⟨ρ1, S1, q1⟩ => q1 H1 (Mid.refl S1)⟩
theorem pw_mand1 (ha : PT X a (tT X.K X.mg W ma)) : PW X (.BoolOp .And [a] pos) (tT X.K X.mg W ma) := pw_and1 ha
theorem pw_mor1 (ha : PT X a (tT X.K X.mg W ma)) : PW X (.BoolOp .Or [a] pos) (tT X.K X.mg W ma) := pw_or1 ha
theorem pw_mand {rest : List Expr} (ha : PT X a (tT X.K X.mg W ma)) (hb : PW X (.BoolOp .And (b :: rest) pos) (tT X.K X.mg W mb)) : PW X (.BoolOp .And (a :: b :: rest) pos) (tT X.K X.mg W (mAnd ma mb)) := by
  refine PW.weak (pw_and ha hb) fun σ H Q ⟨ρ, S, q⟩ => ?_
  obtain ⟨ρ', S', h'⟩ := tT_first S q
  refine ⟨ρ', S', h'.imp fun k H1 ⟨ρ1, S1, q1⟩ => ?_⟩
  cases k with
  | true => exact ⟨ρ1, S1, q1⟩
  | false => exact q1 H1 (Mid.refl S1)
theorem pw_mor {rest : List Expr} (ha : PT X a (tT X.K X.mg W ma)) (hb : PW X (.BoolOp .Or (b :: rest) pos) (tT X.K X.mg W mb)) : PW X (.BoolOp .Or (a :: b :: rest) pos) (tT X.K X.mg W (mOr ma mb)) := by
  refine PW.weak (pw_or ha hb) fun σ H Q ⟨ρ, S, q⟩ => ?_
  obtain ⟨ρ', S', h'⟩ := tT_first S q
  refine ⟨ρ', S', h'.imp fun k H1 ⟨ρ1, S1, q1⟩ => ?_⟩
  cases k with
  | false => exact ⟨ρ1, S1, q1⟩
  | true => exact q1 H1 (Mid.refl S1)
/-! ### chains -/
theorem tOf_ch {K : PySem.W.Frag} {mg : Str → Option Value} {g g' : D → D → Option Res} {σ : L2.St} {H : Hp} {Q : VK} (h : tOf K mg W (mCh g g' ma mb mc) σ H Q) :
    tChain (rD2 K g) (rD2 K g') (tOf K mg W ma) (tOf K mg W mb) (tOf K mg W mc) σ H Q := by
  obtain ⟨ρ, S, q⟩ := h
  unfold mCh at q
  refine ⟨ρ, S, ?_⟩
  cases e1 : ma ρ with
  | stuck => rw [e1] at q; exact q.elim
  | exc x => rw [e1] at q; exact q
  | ok p =>
    obtain ⟨r1, ρ1⟩ := p
    rw [e1] at q
    simp only [Ot.bind] at q
    intro x H1 p1
    refine ⟨ρ1, p1.sim, ?_⟩
    cases e2 : mb ρ1 with
    | stuck => rw [e2] at q; exact q.elim
    | exc x =>
      rw [e2] at q
      exact fun cls d H' ex k => q cls d H' ex (p1.keep.trans k fun c z => .inl (p1.sub c z))
    | ok p =>
      obtain ⟨r2, ρ2⟩ := p
      rw [e2] at q
      simp only at q
      intro y H2 p2
      have a1 := RsAt.mid p1.sim p1.at_ p2.mid
      have m2 := p1.mid.trans p2.mid
      cases k1 : pk ρ2 r1 with
      | none => rw [k1] at q; exact q.elim
      | some dx =>
        cases k2 : pk ρ2 r2 with
        | none => rw [k1, k2] at q; exact q.elim
        | some dy =>
          rw [k1, k2] at q
          simp only at q
          cases eg : g dx dy with
          | none => rw [eg] at q; exact q.elim
          | some res =>
            rw [eg] at q
            cases res with
            | lst _ => exact q.elim
            | tup _ => exact q.elim
            | d z =>
              cases z with
              | bool k =>
                refine ⟨dx, dy, _, pk_rep p2.sim a1 k1, pk_rep p2.sim p2.at_ k2, eg, fun v rv => ?_⟩
                cases rv
                refine ⟨k, rfl, ?_⟩
                cases k with
                | false =>
                  rw [if_neg Bool.false_ne_true]
                  exact q _ _ (m2.post (.bool false) trivial)
                | true =>
                  rw [if_pos rfl]
                  refine ⟨ρ2, p2.sim, ?_⟩
                  simp only at q
                  cases e3 : mc ρ2 with
                  | stuck => rw [e3] at q; exact q.elim
                  | exc x =>
                    rw [e3] at q
                    exact fun cls d H' ex k => q cls d H' ex (m2.keep.trans k fun c z => .inl (m2.sub c z))
                  | ok p =>
                    obtain ⟨r3, ρ3⟩ := p
                    rw [e3] at q
                    simp only at q
                    intro z H3 p3
                    have b1 := RsAt.mid p2.sim p2.at_ p3.mid
                    cases k3 : pk ρ3 r2 with
                    | none => rw [k3] at q; exact q.elim
                    | some dy' =>
                      cases k4 : pk ρ3 r3 with
                      | none => rw [k3, k4] at q; exact q.elim
                      | some dz =>
                        rw [k3, k4] at q
                        simp only at q
                        cases eg' : g' dy' dz with
                        | none => rw [eg'] at q; exact q.elim
                        | some res =>
                          rw [eg'] at q
                          cases res with
                          | lst _ => exact q.elim
                          | tup _ => exact q.elim
                          | d z' =>
                            cases z' with
                            | bool k' => exact ⟨dy', dz, _, pk_rep p3.sim b1 k3, pk_rep p3.sim p3.at_ k4, eg', fun v rv => q v H3 ((m2.trans p3.mid).post rv trivial)⟩
                            | _ => exact q.elim
              | _ => exact q.elim
theorem pe_mch {op op' : CmpOp} {g g' : D → D → Option Res} (ho : OpR X (compareOp op) (rD2 X.K g)) (ho' : OpR X (compareOp op') (rD2 X.K g')) (ha : PE X a (tOf X.K X.mg W ma)) (hb : PE X b (tOf X.K X.mg W mb)) (hc : PE X c (tOf X.K X.mg W mc))
    (hm : lastMarks [op, op'] [b, c] = false) : PE X (.Compare a [op, op'] [b, c] pos) (tOf X.K X.mg W (mCh g g' ma mb mc)) := PE.weak (pe_chain ho ho' ha hb hc hm) fun _ _ _ => tOf_ch
theorem pt_mch {op op' : CmpOp} {g g' : D → D → Option Res} (ho : OpR X (compareOp op) (rD2 X.K g)) (ho' : OpR X (compareOp op') (rD2 X.K g')) (ha : PE X a (tOf X.K X.mg W ma)) (hb : PE X b (tOf X.K X.mg W mb)) (hc : PE X c (tOf X.K X.mg W mc))
    (hm : lastMarks [op, op'] [b, c] = false) : PT X (.Compare a [op, op'] [b, c] pos) (tT X.K X.mg W (mCh g g' ma mb mc)) :=
  PT.weak (pt_chain ho ho' ha hb hc hm) fun σ H Q ⟨ρ, S, q⟩ => tOf_ch (Q := fun x H1 => ∃ c, x = .bl c ∧ Q c H1) ⟨ρ, S, q.val⟩
end
end Mp
set_option maxHeartbeats 1000000
/-! Mp8: arguments, displays, calls of what is built in, subscripts, slices. -/
namespace Mp
open PySem PySem.Spec PyProof.Rows L2
inductive RsAll (K : PySem.W.Frag) (ρ : Env) (σ : L2.St) (H : Hp) : List V → List Rs → Prop
  | nil : RsAll K ρ σ H [] []
  | cons {v vs r rs} : RsAt K ρ σ H v r → RsAll K ρ σ H vs rs → RsAll K ρ σ H (v :: vs) (r :: rs)
def mAs : List M → Env → Ot (List Rs × Env)
  | [], ρ => .ok ([], ρ)
  | m :: ms, ρ => (m ρ).bind fun p => (mAs ms p.2).bind fun q => .ok (p.1 :: q.1, q.2)
/-- the new lists among the values: each younger than H, no two the same -/
def NewD (H : Hp) : List V → List Rs → Prop
  | v :: vs, r :: rs => Fresh H v r ∧ (∀ a xs, r = Rs.new xs → v = V.ref a → ∀ (i : Nat) (ys : Bx), rs[i]? = some (Rs.new ys) → vs[i]? ≠ some (V.ref a)) ∧ NewD H vs rs
  | _, _ => True
theorem NewD.get {H : Hp} : ∀ {vs : List V} {rs : List Rs} {i : Nat} {v : V} {r : Rs}, NewD H vs rs → vs[i]? = some v → rs[i]? = some r → Fresh H v r
  | [], _, _, _, _, _, h, _ => by simp at h
  | _ :: _, [], _, _, _, _, _, h => by simp at h
  | w :: vs, q :: rs, 0, v, r, n, h1, h2 => by
    simp at h1 h2
    subst h1; subst h2
    exact n.1
  | w :: vs, q :: rs, i + 1, v, r, n, h1, h2 => NewD.get (i := i) n.2.2 (by simpa using h1) (by simpa using h2)
theorem NewD.grow {H H1 : Hp} (g : ∀ a, H1 a = none → H a = none) : ∀ {vs : List V} {rs : List Rs}, NewD H1 vs rs → NewD H vs rs
  | [], _, _ => by unfold NewD; trivial
  | _ :: _, [], _ => by unfold NewD; trivial
  | _ :: vs, r :: rs, n => ⟨by
      have h := n.1
      cases r with
      | new xs => exact fun a e => g a (h a e)
      | d x => trivial
      | var i => trivial
      | scr xs => trivial, n.2.1, NewD.grow g n.2.2⟩
def AOut (K : PySem.W.Frag) (mg : Str → Option Value) (W : WX) (ρ : Env) (σ : L2.St) (H : Hp) (Q : List V → Hp → Prop) : Ot (List Rs × Env) → Prop
  | .ok (rs, ρ') => ∀ vs H', Mid K ρ σ H ρ' H' → RsAll K ρ' σ H' vs rs → NewD H vs rs → Q vs H'
  | .exc x => ∀ cls d H', ExOk K mg x cls d H' → Keep (Ow ρ σ) H H' → W cls d σ H'
  | .stuck => False
def tAr (K : PySem.W.Frag) (mg : Str → Option Value) (W : WX) (ms : List M) : TA := fun σ H Q => ∃ ρ, Sim K ρ σ H ∧ AOut K mg W ρ σ H Q (mAs ms ρ)
theorem PA.weak {X : Cx} {es : List Expr} {t t' : TA} (h : PA X es t) (hw : ∀ σ H Q, t' σ H Q → t σ H Q) : PA X es t' := ⟨fun pos pins s σ H Q I q => h.run pos pins s σ H Q I (hw σ H Q q)⟩
section
variable {K : PySem.W.Frag} {mg : Str → Option Value} {W : WX} {ρ ρ1 ρ2 : Env} {σ : L2.St} {H H1 H2 : Hp} {Q : VK}
theorem tAr_cons {m : M} {ms : List M} {Q : List V → Hp → Prop} (h : tAr K mg W (m :: ms) σ H Q) : tCons (tOf K mg W m) (tAr K mg W ms) σ H Q := by
  obtain ⟨ρ, S, q⟩ := h
  unfold mAs at q
  refine ⟨ρ, S, ?_⟩
  cases e1 : m ρ with
  | stuck => rw [e1] at q; exact q.elim
  | exc x => rw [e1] at q; exact q
  | ok p =>
    obtain ⟨r, ρ1⟩ := p
    rw [e1] at q
    simp only [Ot.bind] at q
    intro v H1 p1
    refine ⟨ρ1, p1.sim, ?_⟩
    cases e2 : mAs ms ρ1 with
    | stuck => rw [e2] at q; exact q.elim
    | exc x =>
      rw [e2] at q
      exact fun cls d H' ex k => q cls d H' ex (p1.keep.trans k fun c z => .inl (p1.sub c z))
    | ok p =>
      obtain ⟨rs, ρ2⟩ := p
      rw [e2] at q
      refine fun vs H2 m2 ra nd => q (v :: vs) H2 (p1.mid.trans m2) (.cons (RsAt.mid p1.sim p1.at_ m2) ra) ⟨p1.fresh, fun a xs er ev i ys ei hi => ?_, nd.grow p1.grow⟩
      subst er
      obtain ⟨b, ws, eb, hl, _⟩ := p1.at_
      have hf : Fresh H1 (.ref a) (.new ys) := nd.get hi ei
      have hn := hf a rfl
      rw [ev] at eb
      cases eb
      rw [hn] at hl
      cases hl
def pks (ρ : Env) : List Rs → Option (List D)
  | [] => some []
  | r :: rs => match pk ρ r with
    | some d => match pks ρ rs with
      | some ds => some (d :: ds)
      | none => none
    | none => none
theorem pks_rep (S : Sim K ρ σ H) : ∀ {vs : List V} {rs : List Rs} {ds : List D}, RsAll K ρ σ H vs rs → pks ρ rs = some ds → RepPs K H vs ds
  | _, _, _, .nil, h => by cases h; exact .nil
  | _, _, _, .cons (r := r) (rs := rs) a t, h => by
    unfold pks at h
    cases e1 : pk ρ r with
    | none => rw [e1] at h; cases h
    | some d =>
      cases e2 : pks ρ rs with
      | none => rw [e1, e2] at h; cases h
      | some ds =>
        rw [e1, e2] at h
        cases h
        exact .cons (pk_rep S a e1) (pks_rep S t e2)
end
/-- a call of what is built in, by data -/
def rC (K : PySem.W.Frag) (g : List D → Option Res) : List V → Hp → VK → Prop := fun xs H Q => ∃ ds res, RepPs K H xs ds ∧ g ds = some res ∧ ResOk K H Q res
def mB (g : List D → Option Res) (ms : List M) : M := fun ρ => (mAs ms ρ).bind fun p => match pks p.2 p.1 with
  | some ds => match g ds with
    | some res => .ok (res.rs, p.2)
    | none => .stuck
  | none => .stuck
def allD : List Rs → Option (List D)
  | [] => some []
  | .d x :: rs => match allD rs with
    | some ds => some (x :: ds)
    | none => none
  | _ :: _ => none
def mTup (ms : List M) : M := fun ρ => (mAs ms ρ).bind fun p => match allD p.1 with
  | some ds => if ds.length ≤ 1000 then .ok (.d (.tuple ds), p.2) else .stuck
  | none => .stuck
def mLst (ms : List M) : M := fun ρ => (mAs ms ρ).bind fun p => match allD p.1 with
  | some ds => if ds.length ≤ 1000 then .ok (.new (.lst ds), p.2) else .stuck
  | none => .stuck
section
variable {X : Cx} {W : WX} {e : Expr} {es : List Expr} {pos p : Pos} {m : M} {ms : List M}
theorem pa_mnil : PA X [] (tAr X.K X.mg W []) := PA.weak pa_nil fun σ H Q ⟨ρ, S, q⟩ => q [] H (Mid.refl S) .nil trivial
theorem pa_mcons (ha : PE X e (tOf X.K X.mg W m)) (hr : PA X es (tAr X.K X.mg W ms)) (hs : starEach (e :: es) X.env = (false, eval e X.env) :: starEach es X.env) : PA X (e :: es) (tAr X.K X.mg W (m :: ms)) :=
  PA.weak (pa_cons ha hr hs) fun _ _ _ => tAr_cons
theorem tOf_mB {K : PySem.W.Frag} {mg : Str → Option Value} {g : List D → Option Res} {σ : L2.St} {H : Hp} {Q : VK} (h : tOf K mg W (mB g ms) σ H Q) : tCB (rC K g) (tAr K mg W ms) σ H Q := by
  obtain ⟨ρ, S, q⟩ := h
  unfold mB at q
  refine ⟨ρ, S, ?_⟩
  cases e1 : mAs ms ρ with
  | stuck => rw [e1] at q; exact q.elim
  | exc x => rw [e1] at q; exact q
  | ok p =>
    obtain ⟨rs, ρ1⟩ := p
    rw [e1] at q
    simp only [Ot.bind] at q
    intro vs H1 m1 ra nd
    cases e2 : pks ρ1 rs with
    | none => rw [e2] at q; exact q.elim
    | some ds =>
      rw [e2] at q
      simp only at q
      cases e3 : g ds with
      | none => rw [e3] at q; exact q.elim
      | some res =>
        rw [e3] at q
        exact ⟨ds, res, pks_rep m1.sim ra e2, e3, res_post m1.sim m1 q⟩
theorem pe_mB {x : Str} {id : String} {g : List D → Option Res} (hc : CallR X (.builtin id) (rC X.K g)) (hg : Gl X x) (hm : X.mg x = none) (hv : bootBuiltins x = some (.builtin id)) (ha : PA X (e :: es) (tAr X.K X.mg W ms)) (hn : x ≠ "__name__") (hdb : (x == ("__debug__" : Str)) = false)
    (he : starEach (e :: es) X.env = (false, eval e X.env) :: starEach es X.env) (hpl : (backTo pos (starEach es X.env)).any (·.1) = false) : PE X (.Call (.Name x p) (e :: es) [] pos) (tOf X.K X.mg W (mB g ms)) :=
  PE.weak (pe_callB hc hg hm hv ha hn hdb he hpl) fun _ _ _ => tOf_mB
theorem pe_mTy {x : Str} {T : String} {g : List D → Option Res} (hc : CallR X (.type T) (rC X.K g)) (hg : Gl X x) (hm : X.mg x = none) (hv : bootBuiltins x = some (.type T)) (ha : PA X (e :: es) (tAr X.K X.mg W ms)) (hn : x ≠ "__name__") (hdb : (x == ("__debug__" : Str)) = false)
    (he : starEach (e :: es) X.env = (false, eval e X.env) :: starEach es X.env) (hpl : (backTo pos (starEach es X.env)).any (·.1) = false) : PE X (.Call (.Name x p) (e :: es) [] pos) (tOf X.K X.mg W (mB g ms)) :=
  PE.weak (pe_callTy hc hg hm hv ha hn hdb he hpl) fun _ _ _ => tOf_mB
theorem allD_rep {K : PySem.W.Frag} {ρ : Env} {σ : L2.St} {H : Hp} : ∀ {vs : List V} {rs : List Rs} {ds : List D}, RsAll K ρ σ H vs rs → allD rs = some ds → RepDs K H vs ds
  | _, _, _, .nil, h => by cases h; exact .nil
  | _, _, _, .cons (r := r) (rs := rs) a t, h => by
    cases r with
    | d x =>
      unfold allD at h
      cases e2 : allD rs with
      | none => rw [e2] at h; cases h
      | some ds =>
        rw [e2] at h
        cases h
        exact .cons a (allD_rep t e2)
    | new _ => cases h
    | var _ => cases h
    | scr _ => cases h
theorem line1000 {n : Nat} (h : n ≤ 1000) : n ≤ sizeLine := Nat.le_of_lt (small1000 h)
theorem pe_mTup {x1} (h : PA X es (tAr X.K X.mg W ms)) : PE X (.Tuple es x1 pos) (tOf X.K X.mg W (mTup ms)) := by
  refine PE.weak (pe_tup h) fun σ H Q ⟨ρ, S, q⟩ => ⟨ρ, S, ?_⟩
  unfold mTup at q
  cases e1 : mAs ms ρ with
  | stuck => rw [e1] at q; exact q.elim
  | exc x => rw [e1] at q; exact q
  | ok p =>
    obtain ⟨rs, ρ1⟩ := p
    rw [e1] at q
    simp only [Ot.bind] at q
    intro vs H1 m1 ra nd
    cases e2 : allD rs with
    | none => rw [e2] at q; exact q.elim
    | some ds =>
      rw [e2] at q
      simp only at q
      have rd := allD_rep ra e2
      split at q
      · rename_i hl
        refine ⟨by rw [rd.length]; exact line1000 hl, fun p hp => ?_⟩
        exact q _ _ ((m1.trans (Mid.updN m1.sim hp)).post (.tup (.inl (.inl upd_same)) (RepDs.pers (pers_upd hp) rd)) trivial)
      · exact q.elim
theorem pe_mLst (h : PA X es (tAr X.K X.mg W ms)) : PE X (.List es pos) (tOf X.K X.mg W (mLst ms)) := by
  refine PE.weak (pe_lst h) fun σ H Q ⟨ρ, S, q⟩ => ⟨ρ, S, ?_⟩
  unfold mLst at q
  cases e1 : mAs ms ρ with
  | stuck => rw [e1] at q; exact q.elim
  | exc x => rw [e1] at q; exact q
  | ok p =>
    obtain ⟨rs, ρ1⟩ := p
    rw [e1] at q
    simp only [Ot.bind] at q
    intro vs H1 m1 ra nd
    cases e2 : allD rs with
    | none => rw [e2] at q; exact q.elim
    | some ds =>
      rw [e2] at q
      simp only at q
      have rd := allD_rep ra e2
      split at q
      · rename_i hl
        refine ⟨by rw [rd.length]; exact line1000 hl, fun p hp => ?_⟩
        refine q _ _ ((m1.trans (Mid.updN m1.sim hp)).post ⟨p, .lst vs, rfl, upd_same, RepDs.pers (pers_upd hp) rd, m1.sim.not_ow hp⟩ fun a e => ?_)
        cases e
        exact m1.grow _ hp
      · exact q.elim
end
/-! ### subscripts -/
/-- what is read: a list, a tuple, the script, a text -/
def sq (ρ : Env) (r : Rs) : Option (List D ⊕ List D) :=
  match r with
  | .scr xs => some (.inl xs)
  | r => match pk ρ r with
    | some (.list xs) => some (.inl xs)
    | some (.tuple xs) => some (.inr xs)
    | _ => none
def ofSum : List D ⊕ List D → List D
  | .inl xs => xs
  | .inr xs => xs
def mIx (a b : M) : M := fun ρ => (a ρ).bind fun p => (b p.2).bind fun q =>
  match sq q.2 p.1, q.1 with
  | some xs, .d (.int i) => match atI (ofSum xs) i with
    | some x => .ok (.d x, q.2)
    | none => .stuck
  | _, _ => .stuck
section
variable {K : PySem.W.Frag} {mg : Str → Option Value} {W : WX} {ρ ρ1 ρ2 : Env} {σ : L2.St} {H H1 H2 : Hp} {Q : VK}
theorem sq_l {v : V} {r : Rs} {xs : List D} (S : Sim K ρ σ H) (a : RsAt K ρ σ H v r) (h : sq ρ r = some (.inl xs)) : ∃ p vs, v = .ref p ∧ SqL K H p vs ∧ RepDs K H vs xs := by
  cases r with
  | scr ys =>
    cases h
    obtain ⟨p, vs, e, hl, rs⟩ := a
    exact ⟨p, vs, e, hl.sq, rs⟩
  | d x =>
    unfold sq at h
    cases e : pk ρ (.d x) with
    | none => simp only [e] at h; cases h
    | some d =>
      simp only [e] at h
      cases d <;> try (cases h; done)
      cases h
      exact (pk_rep S a e).sq
  | new x =>
    unfold sq at h
    cases e : pk ρ (.new x) with
    | none => simp only [e] at h; cases h
    | some d =>
      simp only [e] at h
      cases d <;> try (cases h; done)
      cases h
      exact (pk_rep S a e).sq
  | var x =>
    unfold sq at h
    cases e : pk ρ (.var x) with
    | none => simp only [e] at h; cases h
    | some d =>
      simp only [e] at h
      cases d <;> try (cases h; done)
      cases h
      exact (pk_rep S a e).sq
theorem sq_r {v : V} {r : Rs} {xs : List D} (S : Sim K ρ σ H) (a : RsAt K ρ σ H v r) (h : sq ρ r = some (.inr xs)) : ∃ p vs, v = .ref p ∧ SqT K H p vs ∧ RepDs K H vs xs := by
  cases r with
  | scr ys => cases h
  | d x =>
    unfold sq at h
    cases e : pk ρ (.d x) with
    | none => simp only [e] at h; cases h
    | some d =>
      simp only [e] at h
      cases d <;> try (cases h; done)
      cases h
      exact (pk_rep S a e).tp
  | new x =>
    unfold sq at h
    cases e : pk ρ (.new x) with
    | none => simp only [e] at h; cases h
    | some d =>
      simp only [e] at h
      cases d <;> try (cases h; done)
      cases h
      exact (pk_rep S a e).tp
  | var x =>
    unfold sq at h
    cases e : pk ρ (.var x) with
    | none => simp only [e] at h; cases h
    | some d =>
      simp only [e] at h
      cases d <;> try (cases h; done)
      cases h
      exact (pk_rep S a e).tp
theorem atI_rep {vs : List V} {xs : List D} {i : Int} {x : D} (r : RepDs K H vs xs) (h : atI xs i = some x) : ∃ v, atI vs i = some v ∧ RepD K H v x := by
  unfold atI at h ⊢
  rw [r.length]
  cases e : ixN xs.length i with
  | none => rw [e] at h; cases h
  | some j =>
    rw [e] at h
    exact r.get (show xs[j]? = some x from h)
end
section
variable {X : Cx} {W : WX} {a b : Expr} {pos : Pos} {ma mb : M}
theorem pe_mIx (ha : PE X a (tOf X.K X.mg W ma)) (hb : PE X b (tOf X.K X.mg W mb)) (hs : PlainIx b) : PE X (.Subscript a b pos) (tOf X.K X.mg W (mIx ma mb)) := by
  refine PE.weak (pe_ix (IxR.or ix_list ix_tup) ha hb hs) fun σ H Q ⟨ρ, S, q⟩ => ⟨ρ, S, ?_⟩
  unfold mIx at q
  cases e1 : ma ρ with
  | stuck => rw [e1] at q; exact q.elim
  | exc x => rw [e1] at q; exact q
  | ok p =>
    obtain ⟨r1, ρ1⟩ := p
    rw [e1] at q
    simp only [Ot.bind] at q
    intro x H1 p1
    refine ⟨ρ1, p1.sim, ?_⟩
    cases e2 : mb ρ1 with
    | stuck => rw [e2] at q; exact q.elim
    | exc x =>
      rw [e2] at q
      exact fun cls d H' ex k => q cls d H' ex (p1.keep.trans k fun c z => .inl (p1.sub c z))
    | ok p =>
      obtain ⟨r2, ρ2⟩ := p
      rw [e2] at q
      simp only at q
      intro y H2 p2
      have a1 := RsAt.mid p1.sim p1.at_ p2.mid
      cases k1 : sq ρ2 r1 with
      | none => rw [k1] at q; exact q.elim
      | some xs =>
        rw [k1] at q
        cases r2 with
        | new _ => exact q.elim
        | var _ => exact q.elim
        | scr _ => exact q.elim
        | d i =>
          cases i <;> try (exact q.elim)
          rename_i i
          simp only at q
          cases k2 : atI (ofSum xs) i with
          | none => rw [k2] at q; exact q.elim
          | some z =>
            rw [k2] at q
            have ey : y = .int i := by cases (show RepD X.K H2 y (.int i) from p2.at_); rfl
            subst ey
            cases xs with
            | inl xs =>
              obtain ⟨c, vs, e, hs, rs⟩ := sq_l p2.sim a1 k1
              obtain ⟨v, ev, rv⟩ := atI_rep rs k2
              exact .inl ⟨c, vs, i, v, e, rfl, hs, ev, q v H2 ((p1.mid.trans p2.mid).post rv trivial)⟩
            | inr xs =>
              obtain ⟨c, vs, e, hs, rs⟩ := sq_r p2.sim a1 k1
              obtain ⟨v, ev, rv⟩ := atI_rep rs k2
              exact .inr ⟨c, vs, i, v, e, rfl, hs, ev, q v H2 ((p1.mid.trans p2.mid).post rv trivial)⟩
end
end Mp
set_option maxHeartbeats 1000000
/-! Mp9: what is built in: len, abs, int, max, min, sum, any, all, list, tuple, divmod, isinstance. -/
namespace Mp
open PySem PySem.Spec PyProof.Rows L2
def allInt : List D → Option (List Int)
  | [] => some []
  | .int i :: r => match allInt r with
    | some l => some (i :: l)
    | none => none
  | _ :: _ => none
def allBool : List D → Option (List Bool)
  | [] => some []
  | .bool i :: r => match allBool r with
    | some l => some (i :: l)
    | none => none
  | _ :: _ => none
section
variable {K : PySem.W.Frag} {H : Hp}
theorem allInt_rep : ∀ {ds : List D} {ns : List Int} {vs : List V}, allInt ds = some ns → RepDs K H vs ds → vs = ns.map V.int
  | [], ns, vs, h, r => by cases h; cases r; rfl
  | d :: ds, ns, vs, h, r => by
    cases d <;> try (cases h; done)
    rename_i i
    unfold allInt at h
    cases e : allInt ds with
    | none => rw [e] at h; cases h
    | some l =>
      rw [e] at h
      cases h
      cases r with
      | cons r1 r2 =>
        cases r1
        rw [allInt_rep e r2]
        rfl
theorem allBool_rep : ∀ {ds : List D} {ns : List Bool} {vs : List V}, allBool ds = some ns → RepDs K H vs ds → vs = ns.map V.bl
  | [], ns, vs, h, r => by cases h; cases r; rfl
  | d :: ds, ns, vs, h, r => by
    cases d <;> try (cases h; done)
    rename_i i
    unfold allBool at h
    cases e : allBool ds with
    | none => rw [e] at h; cases h
    | some l =>
      rw [e] at h
      cases h
      cases r with
      | cons r1 r2 =>
        cases r1
        rw [allBool_rep e r2]
        rfl
theorem reps1 {xs : List V} {d : D} (h : RepPs K H xs [d]) : ∃ x, xs = [x] ∧ RepP K H x d := by
  cases h with
  | cons a b => cases b; exact ⟨_, rfl, a⟩
theorem reps2 {xs : List V} {d e : D} (h : RepPs K H xs [d, e]) : ∃ x y, xs = [x, y] ∧ RepP K H x d ∧ RepP K H y e := by
  cases h with
  | cons a b => cases b with
    | cons c d => cases d; exact ⟨_, _, rfl, a, c⟩
end
def gLen : List D → Option Res
  | [.list xs] => some (.d (.int xs.length))
  | [.tuple xs] => some (.d (.int xs.length))
  | [.str x] => if x.length ≤ sizeLine then some (.d (.int x.length)) else none
  | _ => none
def gAbs : List D → Option Res
  | [.int i] => some (.d (.int (if i < 0 then -i else i)))
  | _ => none
def gInt : List D → Option Res
  | [.int i] => some (.d (.int i))
  | [.bool k] => some (.d (.int (if k then 1 else 0)))
  | _ => none
def gMax2 : List D → Option Res
  | [.int i, .int j] => some (.d (.int (if j > i then j else i)))
  | _ => none
def gMin2 : List D → Option Res
  | [.int i, .int j] => some (.d (.int (if j < i then j else i)))
  | _ => none
def gSum : List D → Option Res
  | [.list xs] => match allInt xs with
    | some ns => some (.d (.int ns.sum))
    | none => none
  | _ => none
def gAny : List D → Option Res
  | [.list xs] => match allBool xs with
    | some bs => some (.d (.bool (bs.any id)))
    | none => none
  | _ => none
def gAll : List D → Option Res
  | [.list xs] => match allBool xs with
    | some bs => some (.d (.bool (bs.all id)))
    | none => none
  | _ => none
def gList : List D → Option Res
  | [.list xs] => some (.lst xs)
  | [.tuple xs] => some (.lst xs)
  | _ => none
def gTuple : List D → Option Res
  | [.list xs] => some (.tup xs)
  | [.tuple xs] => some (.d (.tuple xs))
  | _ => none
def gDivmod : List D → Option Res
  | [.int i, .int j] => if 0 < j && decide (j < 1073741824) then some (.tup [.int (i / j), .int (i % j)]) else none
  | _ => none
section
variable {X : Cx}
theorem cg_len : CallR X (.builtin "len") (rC X.K gLen) := by
  intro pins s σ H xs us Q I r ⟨ds, res, rp, eg, q⟩
  unfold gLen at eg
  split at eg
  · cases eg
    obtain ⟨x, rfl, p⟩ := reps1 rp
    obtain ⟨a, vs, rfl, hs, rs⟩ := p.sq
    exact call_len_seq pins s σ H _ us Q I r ⟨a, vs, rfl, .inl hs, by rw [rs.length]; exact q _ (.int _)⟩
  · cases eg
    obtain ⟨x, rfl, p⟩ := reps1 rp
    obtain ⟨a, vs, rfl, hs, rs⟩ := p.tp
    exact call_len_seq pins s σ H _ us Q I r ⟨a, vs, rfl, .inr hs, by rw [rs.length]; exact q _ (.int _)⟩
  · split at eg
    · cases eg
      obtain ⟨x, rfl, p⟩ := reps1 rp
      have := p.s
      subst this
      exact call_len_str pins s σ H _ us Q I r ⟨_, rfl, by assumption, q _ (.int _)⟩
    · cases eg
  · cases eg
theorem cg_abs : CallR X (.builtin "abs") (rC X.K gAbs) := by
  intro pins s σ H xs us Q I r ⟨ds, res, rp, eg, q⟩
  unfold gAbs at eg
  split at eg
  · cases eg
    obtain ⟨x, rfl, p⟩ := reps1 rp
    have := p.i
    subst this
    exact call_abs pins s σ H _ us Q I r ⟨_, rfl, q _ (.int _)⟩
  · cases eg
theorem cg_int : CallR X (.type "int") (rC X.K gInt) := by
  intro pins s σ H xs us Q I r ⟨ds, res, rp, eg, q⟩
  unfold gInt at eg
  split at eg
  · cases eg
    obtain ⟨x, rfl, p⟩ := reps1 rp
    have := p.i
    subst this
    exact call_int1 pins s σ H _ us Q I r (.inl ⟨_, rfl, q _ (.int _)⟩)
  · cases eg
    obtain ⟨x, rfl, p⟩ := reps1 rp
    have := p.b
    subst this
    exact call_int1 pins s σ H _ us Q I r (.inr ⟨_, rfl, q _ (.int _)⟩)
  · cases eg
theorem cg_max2 (hc : X.calm = true) : CallR X (.builtin "max") (rC X.K gMax2) := by
  intro pins s σ H xs us Q I r ⟨ds, res, rp, eg, q⟩
  unfold gMax2 at eg
  split at eg
  · cases eg
    obtain ⟨x, y, rfl, p1, p2⟩ := reps2 rp
    have e1 := p1.i; have e2 := p2.i
    subst e1; subst e2
    exact call_max2 hc pins s σ H _ us Q I r ⟨_, _, rfl, q _ (.int _)⟩
  · cases eg
theorem cg_min2 (hc : X.calm = true) : CallR X (.builtin "min") (rC X.K gMin2) := by
  intro pins s σ H xs us Q I r ⟨ds, res, rp, eg, q⟩
  unfold gMin2 at eg
  split at eg
  · cases eg
    obtain ⟨x, y, rfl, p1, p2⟩ := reps2 rp
    have e1 := p1.i; have e2 := p2.i
    subst e1; subst e2
    exact call_min2 hc pins s σ H _ us Q I r ⟨_, _, rfl, q _ (.int _)⟩
  · cases eg
theorem cg_sum (hc : X.calm = true) : CallR X (.builtin "sum") (rC X.K gSum) := by
  intro pins s σ H xs us Q I r ⟨ds, res, rp, eg, q⟩
  unfold gSum at eg
  split at eg
  · split at eg
    · rename_i e
      cases eg
      obtain ⟨x, rfl, p⟩ := reps1 rp
      obtain ⟨a, vs, rfl, hs, rs⟩ := p.sq
      have := allInt_rep e rs
      subst this
      exact cr_sum hc pins s σ H _ us Q I r ⟨a, _, rfl, hs, q _ (.int _)⟩
    · cases eg
  · cases eg
theorem cg_any (hc : X.calm = true) : CallR X (.builtin "any") (rC X.K gAny) := by
  intro pins s σ H xs us Q I r ⟨ds, res, rp, eg, q⟩
  unfold gAny at eg
  split at eg
  · split at eg
    · rename_i e
      cases eg
      obtain ⟨x, rfl, p⟩ := reps1 rp
      obtain ⟨a, vs, rfl, hs, rs⟩ := p.sq
      have := allBool_rep e rs
      subst this
      exact cr_any hc pins s σ H _ us Q I r ⟨a, _, rfl, hs, q _ (.bool _)⟩
    · cases eg
  · cases eg
theorem cg_all (hc : X.calm = true) : CallR X (.builtin "all") (rC X.K gAll) := by
  intro pins s σ H xs us Q I r ⟨ds, res, rp, eg, q⟩
  unfold gAll at eg
  split at eg
  · split at eg
    · rename_i e
      cases eg
      obtain ⟨x, rfl, p⟩ := reps1 rp
      obtain ⟨a, vs, rfl, hs, rs⟩ := p.sq
      have := allBool_rep e rs
      subst this
      exact cr_all hc pins s σ H _ us Q I r ⟨a, _, rfl, hs, q _ (.bool _)⟩
    · cases eg
  · cases eg
theorem cg_list : CallR X (.type "list") (rC X.K gList) := by
  intro pins s σ H xs us Q I r ⟨ds, res, rp, eg, q⟩
  unfold gList at eg
  split at eg
  · cases eg
    obtain ⟨x, rfl, p⟩ := reps1 rp
    obtain ⟨a, vs, rfl, hs, rs⟩ := p.sq
    exact call_list_of pins s σ H _ us Q I r ⟨a, vs, rfl, .inl hs, fun l hl => q l vs hl rs⟩
  · cases eg
    obtain ⟨x, rfl, p⟩ := reps1 rp
    obtain ⟨a, vs, rfl, hs, rs⟩ := p.tp
    exact call_list_of pins s σ H _ us Q I r ⟨a, vs, rfl, .inr hs, fun l hl => q l vs hl rs⟩
  · cases eg
theorem cg_tuple : CallR X (.type "tuple") (rC X.K gTuple) := by
  intro pins s σ H xs us Q I r ⟨ds, res, rp, eg, q⟩
  unfold gTuple at eg
  split at eg
  · cases eg
    obtain ⟨x, rfl, p⟩ := reps1 rp
    obtain ⟨a, vs, rfl, hs, rs⟩ := p.sq
    exact call_tuple_of pins s σ H _ us Q I r ⟨a, vs, rfl, .inl ⟨hs, fun l hl => q.1 l vs hl rs⟩⟩
  · cases eg
    obtain ⟨x, rfl, p⟩ := reps1 rp
    obtain ⟨a, vs, rfl, hs, rs⟩ := p.tp
    exact call_tuple_of pins s σ H _ us Q I r ⟨a, vs, rfl, .inr ⟨hs, q _ (.tup hs rs)⟩⟩
  · cases eg
theorem cg_divmod : CallR X (.builtin "divmod") (rC X.K gDivmod) := by
  intro pins s σ H xs us Q I r ⟨ds, res, rp, eg, q⟩
  unfold gDivmod at eg
  split at eg
  · split at eg
    · rename_i hc
      simp only [Bool.and_eq_true, decide_eq_true_eq] at hc
      cases eg
      obtain ⟨x, y, rfl, p1, p2⟩ := reps2 rp
      have e1 := p1.i; have e2 := p2.i
      subst e1; subst e2
      exact call_divmod pins s σ H _ us Q I r ⟨_, _, rfl, hc, fun p hp => q.1 p _ hp (.cons (.int _) (.cons (.int _) .nil))⟩
    · cases eg
  · cases eg
end
/-! ### isinstance -/
def tyD : D → String
  | .none => "NoneType"
  | .bool _ => "bool"
  | .int _ => "int"
  | .str _ => "str"
  | .list _ => "list"
  | .tuple _ => "tuple"
  | .dict _ => "dict"
def isTy (t : String) (T : String) : Bool := t == T || (t == "bool" && T == "int")
def known (T : String) : Bool := T == "int" || T == "bool" || T == "str" || T == "list" || T == "tuple" || T == "dict"
theorem kit_any (K : PySem.W.Frag) (x : D) (T : String) (h : known T = true) : PySem.W.kitOne K (.type (tyD x)) (.type T) = some (isTy (tyD x) T) := by
  unfold known at h
  simp only [Bool.or_eq_true, beq_iff_eq] at h
  rcases h with ((((h | h) | h) | h) | h) | h <;> subst h <;> cases x <;> (refine kit_ty ?_; dsimp only [tyD]; decide +kernel)
theorem kits_any (K : PySem.W.Frag) (x : D) : ∀ (Ts : List String), Ts.all known = true → PySem.W.kitAny K (.type (tyD x)) (Ts.map Value.type) = some (Ts.any (isTy (tyD x)))
  | [], _ => rfl
  | T :: Ts, h => by
    rw [List.all_cons, Bool.and_eq_true] at h
    rw [List.map_cons]
    unfold PySem.W.kitAny
    rw [kit_any K x T h.1, List.any_cons]
    cases isTy (tyD x) T with
    | true => rfl
    | false =>
      rw [Bool.false_or]
      exact kits_any K x Ts h.2
def noDct : D → Bool
  | .dict _ => false
  | _ => true
theorem RepP.tyX {K : PySem.W.Frag} {H : Hp} {v : V} {x : D} (h : RepP K H v x) (hx : noDct x = true) : TyX K H v (.type (tyD x)) := by
  rcases h with h | ⟨a, o, b, e, hl, rs, ed, bk⟩
  · cases h with
    | none => exact .base .non
    | bool b => exact .base (.bl b)
    | int i => exact .base (.int i)
    | str x => exact .base (.str x)
    | tup hq _ =>
      rcases hq with (hq | ⟨o, hq⟩) | ⟨o, its, n, hk, hc, _⟩
      · exact .base (.tup hq)
      · exact .fTuple hq
      · exact .kTuple hk hc
    | lst hq _ => obtain ⟨o, hq⟩ := hq; exact .base (.frz hq)
    | dct hq _ _ => cases hx
    | dtt hq _ _ => cases hx
  · subst e; subst ed
    cases o <;> cases b <;> first | exact rs.elim | (cases hx; done) | exact .base (.lst hl)
def mIsi (Ts : List String) (a : M) : M := fun ρ => (a ρ).bind fun p => match pk p.2 p.1 with
  | some d => if Ts.all known && noDct d then .ok (.d (.bool (Ts.any (isTy (tyD d)))), p.2) else .stuck
  | none => .stuck
end Mp
namespace Mp
open PySem PySem.Spec PyProof.Rows L2
section
variable {X : Cx} {W : WX} {e : Expr} {pos p : Pos} {m : M}
theorem pe_ty {T : Str} {n : String} (hg : Gl X T) (hm : X.mg T = none) (hv : bootBuiltins T = some (.type n)) (hn : T ≠ "__name__") (hd : (T == ("__debug__" : Str)) = false) : PE X (.Name T p) (tC (.ty n)) := pe_bltn hg hm hv rfl hn hd
/-- isinstance(e, T) -/
theorem pe_mIsi1 {c : Expr} {n : String} (hg : Gl X "isinstance") (hm : X.mg "isinstance" = none) (ha : PE X e (tOf X.K X.mg W m)) (hc : PE X c (tC (.ty n)))
    (h1 : starEach [e, c] X.env = (false, eval e X.env) :: starEach [c] X.env) (h2 : starEach [c] X.env = (false, eval c X.env) :: starEach [] X.env) (hpl : (backTo pos (starEach [c] X.env)).any (·.1) = false) :
    PE X (.Call (.Name "isinstance" p) [e, c] [] pos) (tOf X.K X.mg W (mIsi [n] m)) := by
  refine PE.weak (pe_callB call_isi hg hm (by decide +kernel) (pa_cons ha (pa_cons hc pa_nil h2) h1) (by decide) (by decide) h1 hpl) fun σ H Q ⟨ρ, S, q⟩ => ⟨ρ, S, ?_⟩
  unfold mIsi at q
  cases e1 : m ρ with
  | stuck => rw [e1] at q; exact q.elim
  | exc x => rw [e1] at q; exact q
  | ok p =>
    obtain ⟨r, ρ1⟩ := p
    rw [e1] at q
    simp only [Ot.bind] at q
    intro v H1 p1
    cases e2 : pk ρ1 r with
    | none => rw [e2] at q; exact q.elim
    | some d =>
      rw [e2] at q
      simp only at q
      split at q
      · rename_i hk
        obtain ⟨hk, hx⟩ := (Bool.and_eq_true _ _).mp hk
        refine ⟨v, .ty n, _, .type n, _, rfl, .ty n, (pk_rep p1.sim p1.at_ e2).tyX hx, kit_any _ d n (by simpa using hk), ?_⟩
        have := q (.bl (List.any [n] (isTy (tyD d)))) H1 (p1.mid.post (.bool _) trivial)
        simpa using this
      · exact q.elim
/-- isinstance(e, (T, ..)) -/
theorem pe_mIsiT {cs : List Expr} {ns : List String} {k : Nat} {pt : Pos} (hg : Gl X "isinstance") (hm : X.mg "isinstance" = none) (ha : PE X e (tOf X.K X.mg W m)) {tc : TA} (hc : PA X cs tc) (hcs : ∀ σ H Q, Q (ns.map V.ty) H → tc σ H Q) (hl : ns.length ≤ 1000)
    (h1 : starEach [e, .Tuple cs k pt] X.env = (false, eval e X.env) :: starEach [.Tuple cs k pt] X.env) (h2 : starEach [.Tuple cs k pt] X.env = (false, eval (.Tuple cs k pt) X.env) :: starEach [] X.env) (hpl : (backTo pos (starEach [.Tuple cs k pt] X.env)).any (·.1) = false) :
    PE X (.Call (.Name "isinstance" p) [e, .Tuple cs k pt] [] pos) (tOf X.K X.mg W (mIsi ns m)) := by
  refine PE.weak (pe_callB call_isiT hg hm (by decide +kernel) (pa_cons ha (pa_cons (pe_tup hc) pa_nil h2) h1) (by decide) (by decide) h1 hpl) fun σ H Q ⟨ρ, S, q⟩ => ⟨ρ, S, ?_⟩
  unfold mIsi at q
  cases e1 : m ρ with
  | stuck => rw [e1] at q; exact q.elim
  | exc x => rw [e1] at q; exact q
  | ok p =>
    obtain ⟨r, ρ1⟩ := p
    rw [e1] at q
    simp only [Ot.bind] at q
    intro v H1 p1
    cases e2 : pk ρ1 r with
    | none => rw [e2] at q; exact q.elim
    | some d =>
      rw [e2] at q
      simp only at q
      split at q
      · rename_i hk
        obtain ⟨hk, hx⟩ := (Bool.and_eq_true _ _).mp hk
        refine hcs _ _ _ ⟨by rw [List.length_map]; exact line1000 hl, fun tp htp => ?_⟩
        have hty : ∀ ns : List String, Paired ClsV (ns.map V.ty) (ns.map Value.type) := fun ns => by
          induction ns with
          | nil => exact .nil
          | cons n ns ih => exact .cons (.ty n) ih
        have m2 := Mid.updN (o := .tup (ns.map V.ty)) p1.sim htp
        have rp : RepP X.K (upd H1 tp (.tup (ns.map V.ty))) v d := pk_rep m2.sim (RsAt.mid p1.sim p1.at_ m2) e2
        exact ⟨v, tp, _, _, _, _, rfl, upd_same, hty ns, rp.tyX hx, kits_any _ d ns hk, q _ _ ((p1.mid.trans m2).post (.bool _) trivial)⟩
      · exact q.elim
theorem hcs_nil {X : Cx} : ∀ σ H (Q : List V → Hp → Prop), Q (([] : List String).map V.ty) H → tNil σ H Q := fun _ _ _ q => q
theorem hcs_cons {n : String} {ns : List String} {tc : TA} (h : ∀ σ H (Q : List V → Hp → Prop), Q (ns.map V.ty) H → tc σ H Q) : ∀ σ H (Q : List V → Hp → Prop), Q ((n :: ns).map V.ty) H → tCons (tC (.ty n)) tc σ H Q :=
  fun σ H Q q => h σ H _ q
end
end Mp
set_option maxHeartbeats 1000000
/-! Mp10: statements. -/
namespace Mp
open PySem PySem.Spec PyProof.Rows L2
inductive Fl where
  | next | brk | cont
  | ret (r : Rs)
abbrev MS := Env → Ot (Fl × Env)
/-- what a statement leaves; the names at io stay -/
structure SMid (K : PySem.W.Frag) (io : List Nat) (ρ : Env) (σ : L2.St) (H : Hp) (ρ' : Env) (σ' : L2.St) (H' : Hp) : Prop where
  sim : Sim K ρ' σ' H'
  keep : Keep (Ow ρ σ) H H'
  grow : ∀ a, H' a = none → H a = none
  sub : ∀ a, Ow ρ' σ' a → Ow ρ σ a ∨ H a = none
  fix : ∀ j ∈ io, σ'[j]? = σ[j]?
section
variable {K : PySem.W.Frag} {mg : Str → Option Value} {W : WX} {io : List Nat} {ρ ρ1 ρ2 : Env} {σ σ1 σ2 : L2.St} {H H1 H2 : Hp}
theorem SMid.refl (S : Sim K ρ σ H) : SMid K io ρ σ H ρ σ H := ⟨S, Keep.refl, fun _ h => h, fun _ h => .inl h, fun _ _ => rfl⟩
theorem SMid.trans (p : SMid K io ρ σ H ρ1 σ1 H1) (q : SMid K io ρ1 σ1 H1 ρ2 σ2 H2) : SMid K io ρ σ H ρ2 σ2 H2 :=
  ⟨q.sim, p.keep.trans q.keep p.sub, fun a h => p.grow a (q.grow a h), fun a h => (q.sub a h).elim (p.sub a) fun z => .inr (p.grow a z), fun j hj => (q.fix j hj).trans (p.fix j hj)⟩
theorem Mid.s (p : Mid K ρ σ H ρ1 H1) : SMid K io ρ σ H ρ1 σ H1 := ⟨p.sim, p.keep, p.grow, fun a h => .inl (p.sub a h), fun _ _ => rfl⟩
def SOut (K : PySem.W.Frag) (mg : Str → Option Value) (W : WX) (io : List Nat) (ρ : Env) (σ : L2.St) (H : Hp) (E : Ends) : Ot (Fl × Env) → Prop
  | .ok (.next, ρ') => ∀ σ' H', SMid K io ρ σ H ρ' σ' H' → E.nx σ' H'
  | .ok (.brk, ρ') => ∀ σ' H', SMid K io ρ σ H ρ' σ' H' → E.bk σ' H'
  | .ok (.cont, ρ') => ∀ σ' H', SMid K io ρ σ H ρ' σ' H' → E.ct σ' H'
  | .ok (.ret r, ρ') => ∀ v σ' H', SMid K io ρ σ H ρ' σ' H' → RsAt K ρ' σ' H' v r → Fresh H v r → E.rt v H'
  | .exc x => ∀ cls d σ' H', ExOk K mg x cls d H' → Keep (Ow ρ σ) H H' → W cls d σ' H'
  | .stuck => False
/-- the reading of a statement's combinator -/
def tS (K : PySem.W.Frag) (mg : Str → Option Value) (W : WX) (io : List Nat) (m : MS) : TS := fun E σ H => ∃ ρ, Sim K ρ σ H ∧ SOut K mg W io ρ σ H E (m ρ)
theorem SOut.after {E : Ends} {o : Ot (Fl × Env)} (p : SMid K io ρ σ H ρ1 σ1 H1) (q : SOut K mg W io ρ σ H E o) : SOut K mg W io ρ1 σ1 H1 E o := by
  cases o with
  | stuck => exact q
  | exc x => exact fun cls d σ' H' e k => q cls d σ' H' e (p.keep.trans k p.sub)
  | ok f =>
    obtain ⟨f, ρ'⟩ := f
    cases f with
    | next => exact fun σ' H' m => q σ' H' (p.trans m)
    | brk => exact fun σ' H' m => q σ' H' (p.trans m)
    | cont => exact fun σ' H' m => q σ' H' (p.trans m)
    | ret r => exact fun v σ' H' m a f => q v σ' H' (p.trans m) a (f.grow p.grow)
theorem SOut.exc {E : Ends} {x : Ex} (q : SOut K mg W io ρ σ H E (.exc x)) {Q : VK} : EOut K mg W ρ σ H Q (.exc x) := fun cls d H' e k => q cls d σ H' e k
end
theorem PS.weak {X : Cx} {st : Stmt} {t t' : TS} (h : PS X st t) (hw : ∀ D σ H, t' D σ H → t D σ H) : PS X st t' := ⟨fun pins s σ H D I q => h.run pins s σ H D I (hw D σ H q)⟩
theorem PSs.weak {X : Cx} {st : List Stmt} {t t' : TS} (h : PSs X st t) (hw : ∀ D σ H, t' D σ H → t D σ H) : PSs X st t' := ⟨fun pins s σ H D I q => h.run pins s σ H D I (hw D σ H q)⟩
def mSkip : MS := fun ρ => .ok (.next, ρ)
def mSeq (a b : MS) : MS := fun ρ => (a ρ).bind fun p => match p.1 with
  | .next => b p.2
  | f => .ok (f, p.2)
def mBrk : MS := fun ρ => .ok (.brk, ρ)
def mCont : MS := fun ρ => .ok (.cont, ρ)
def mExpr (m : M) : MS := fun ρ => (m ρ).bind fun p => .ok (.next, p.2)
def mRet (m : M) : MS := fun ρ => (m ρ).bind fun p => .ok (.ret p.1, p.2)
def mRetN : MS := fun ρ => .ok (.ret (.d .none), ρ)
def mIfS (c : M) (a b : MS) : MS := fun ρ => (c ρ).bind fun p => match bo p.1 with
  | some k => (cond k a b) p.2
  | none => .stuck
section
variable {X : Cx} {W : WX} {io : List Nat} {st : Stmt} {rest : List Stmt} {e c : Expr} {pos : Pos} {m mc : M} {a b : MS}
theorem pss_mnil : PSs X [] (tS X.K X.mg W io mSkip) := PSs.weak pss_nil fun D σ H ⟨ρ, S, q⟩ => q σ H (SMid.refl S)
theorem tS_seq {K : PySem.W.Frag} {mg : Str → Option Value} {D : Ends} {σ : L2.St} {H : Hp} (h : tS K mg W io (mSeq a b) D σ H) : tSeq (tS K mg W io a) (tS K mg W io b) D σ H := by
  obtain ⟨ρ, S, q⟩ := h
  unfold mSeq at q
  refine ⟨ρ, S, ?_⟩
  cases e1 : a ρ with
  | stuck => rw [e1] at q; exact q.elim
  | exc x => rw [e1] at q; exact q
  | ok p =>
    obtain ⟨f, ρ1⟩ := p
    rw [e1] at q
    cases f with
    | next => exact fun σ1 H1 m1 => ⟨ρ1, m1.sim, SOut.after m1 q⟩
    | brk => exact q
    | cont => exact q
    | ret r => exact q
theorem pss_mcons (h1 : PS X st (tS X.K X.mg W io a)) (h2 : PSs X rest (tS X.K X.mg W io b)) : PSs X (st :: rest) (tS X.K X.mg W io (mSeq a b)) := PSs.weak (pss_cons h1 h2) fun _ _ _ => tS_seq
theorem pss_mone (h1 : PS X st (tS X.K X.mg W io a)) : PSs X [st] (tS X.K X.mg W io a) := pss_one h1
theorem ps_mpass : PS X (.Pass pos) (tS X.K X.mg W io mSkip) := PS.weak ps_pass fun D σ H ⟨ρ, S, q⟩ => q σ H (SMid.refl S)
theorem ps_mbrk : PS X (.Break pos) (tS X.K X.mg W io mBrk) := PS.weak ps_break fun D σ H ⟨ρ, S, q⟩ => q σ H (SMid.refl S)
theorem ps_mcont : PS X (.Continue pos) (tS X.K X.mg W io mCont) := PS.weak ps_continue fun D σ H ⟨ρ, S, q⟩ => q σ H (SMid.refl S)
theorem ps_mexpr (he : PE X e (tOf X.K X.mg W m)) (hs : swapsWith e none pos.line X.env = pure false) : PS X (.Expr e pos) (tS X.K X.mg W io (mExpr m)) := by
  refine PS.weak (ps_expr he hs) fun D σ H ⟨ρ, S, q⟩ => ⟨ρ, S, ?_⟩
  unfold mExpr at q
  cases e1 : m ρ with
  | stuck => rw [e1] at q; exact q.elim
  | exc x => rw [e1] at q; exact q.exc
  | ok p => rw [e1] at q; exact fun v H1 p1 => q σ H1 p1.mid.s
theorem ps_mret (he : PE X e (tOf X.K X.mg W m)) : PS X (.Return (some e) pos) (tS X.K X.mg W io (mRet m)) := by
  refine PS.weak (ps_ret he) fun D σ H ⟨ρ, S, q⟩ => ⟨ρ, S, ?_⟩
  unfold mRet at q
  cases e1 : m ρ with
  | stuck => rw [e1] at q; exact q.elim
  | exc x => rw [e1] at q; exact q.exc
  | ok p => rw [e1] at q; exact fun v H1 p1 => q v σ H1 p1.mid.s p1.at_ p1.fresh
theorem ps_mretN : PS X (.Return none pos) (tS X.K X.mg W io mRetN) := PS.weak ps_retN fun D σ H ⟨ρ, S, q⟩ => q .non σ H (SMid.refl S) .none trivial
theorem ps_mif {sa sb : List Stmt} (hc : PT X c (tT X.K X.mg W mc)) (ha : PSs X sa (tS X.K X.mg W io a)) (hb : PSs X sb (tS X.K X.mg W io b)) : PS X (.If c sa sb pos) (tS X.K X.mg W io (mIfS mc a b)) := by
  refine PS.weak (ps_if hc ha hb) fun D σ H ⟨ρ, S, q⟩ => ⟨ρ, S, ?_⟩
  unfold mIfS at q
  cases e1 : mc ρ with
  | stuck => rw [e1] at q; exact q.elim
  | exc x => rw [e1] at q; exact fun cls d H' ex k => q cls d σ H' ex k
  | ok p =>
    obtain ⟨r, ρ1⟩ := p
    rw [e1] at q
    simp only [Ot.bind] at q
    cases e2 : bo r with
    | none => rw [e2] at q; exact q.elim
    | some k =>
      rw [e2] at q
      have er := bo_some e2
      subst er
      intro H1 m1
      cases k with
      | true => exact ⟨ρ1, m1.sim, SOut.after m1.s q⟩
      | false => exact ⟨ρ1, m1.sim, SOut.after m1.s q⟩
end
/-! ### a name is stored -/
def asV (ρ : Env) : Rs → Option (Vl × Env)
  | .d x => some (.d x, ρ)
  | .new b => some (.own b, ρ)
  | .scr xs => some (.scr xs, ρ)
  | .var i => match fz (.var i) ρ with
    | some (x, ρ') => some (.d x, ρ')
    | none => none
section
variable {K : PySem.W.Frag} {mg : Str → Option Value} {W : WX} {io : List Nat} {ρ ρ0 ρ1 ρ2 : Env} {σ σ1 σ2 : L2.St} {H H0 H1 H2 : Hp}
/-- the i-th name holds v now -/
theorem Sim.set {i : Nat} {v : V} {vl : Vl} (S : Sim K ρ σ H) (r : RepV K H v vl) (n : vl.owned = true → ∀ a, v = .ref a → ¬ Ow ρ σ a) : Sim K (ρ.set i (some vl)) (σ.set i (some v)) H := by
  have own' : ∀ j a, OwnAt (ρ.set i (some vl)) (σ.set i (some v)) j a → (j = i ∧ vl.owned = true ∧ v = .ref a) ∨ (j ≠ i ∧ OwnAt ρ σ j a) := by
    rintro j a ⟨⟨wl, e1, e2⟩, e3⟩
    by_cases hj : i = j
    · subst hj
      have hl := lk_lt e1
      rw [List.length_set] at hl
      rw [lk_set_self hl] at e1
      cases e1
      rw [List.getElem?_set_self (by rw [S.len]; exact hl)] at e3
      cases e3
      exact .inl ⟨rfl, e2, rfl⟩
    · rw [lk_set_ne hj] at e1
      rw [List.getElem?_set_ne hj] at e3
      exact .inr ⟨Ne.symm hj, ⟨wl, e1, e2⟩, e3⟩
  refine ⟨by rw [List.length_set, List.length_set]; exact S.len, fun j wl e => ?_, fun j k a h1 h2 => ?_⟩
  · by_cases hj : i = j
    · subst hj
      have hl := lk_lt e
      rw [List.length_set] at hl
      rw [lk_set_self hl] at e
      cases e
      exact ⟨v, by rw [List.getElem?_set_self (by rw [S.len]; exact hl)], r⟩
    · rw [lk_set_ne hj] at e
      obtain ⟨u, e1, ru⟩ := S.rep j wl e
      exact ⟨u, by rw [List.getElem?_set_ne hj]; exact e1, ru⟩
  · rcases own' j a h1 with ⟨rfl, o1, e1⟩ | ⟨n1, o1⟩
    · rcases own' k a h2 with ⟨rfl, _, _⟩ | ⟨n2, o2⟩
      · rfl
      · exact absurd ⟨k, o2⟩ (n o1 a e1)
    · rcases own' k a h2 with ⟨rfl, o2, e2⟩ | ⟨n2, o2⟩
      · exact absurd ⟨j, o1⟩ (n o2 a e2)
      · exact S.one j k a o1 o2
theorem ow_sets {i : Nat} {v : V} {vl : Vl} {a : Addr} (S : Sim K ρ σ H) (h : Ow (ρ.set i (some vl)) (σ.set i (some v)) a) : (vl.owned = true ∧ v = .ref a) ∨ Ow ρ σ a := by
  obtain ⟨j, ⟨wl, e1, e2⟩, e3⟩ := h
  by_cases hj : i = j
  · subst hj
    have hl := lk_lt e1
    rw [List.length_set] at hl
    rw [lk_set_self hl] at e1
    cases e1
    rw [List.getElem?_set_self (by rw [S.len]; exact hl)] at e3
    cases e3
    exact .inl ⟨e2, rfl⟩
  · rw [lk_set_ne hj] at e1
    rw [List.getElem?_set_ne hj] at e3
    exact .inr ⟨j, ⟨wl, e1, e2⟩, e3⟩
theorem SMid.set {i : Nat} {v : V} {vl : Vl} (m : SMid K io ρ0 σ1 H0 ρ σ H) (hi : io.contains i = false) (r : RepV K H v vl) (n : vl.owned = true → ∀ a, v = .ref a → ¬ Ow ρ σ a ∧ H0 a = none) :
    SMid K io ρ0 σ1 H0 (ρ.set i (some vl)) (σ.set i (some v)) H := by
  refine ⟨m.sim.set r fun h a e => (n h a e).1, m.keep, m.grow, fun a h => ?_, fun j hj => ?_⟩
  · rcases ow_sets m.sim h with ⟨o, e⟩ | h
    · exact .inr (n o a e).2
    · exact m.sub a h
  · have ne : i ≠ j := by
      rintro rfl
      rw [List.contains_eq_mem] at hi
      simp only [decide_eq_false_iff_not] at hi
      exact hi hj
    rw [List.getElem?_set_ne ne]
    exact m.fix j hj
end
def mSet (io : List Nat) (i : Nat) (m : M) : MS := fun ρ => (m ρ).bind fun p => match asV p.2 p.1 with
  | some (vl, ρ2) => if io.contains i then .stuck else .ok (.next, ρ2.set i (some vl))
  | none => .stuck
section
variable {X : Cx} {W : WX} {io : List Nat} {e : Expr} {pos py : Pos} {m : M}
/-- a value as a name may hold it: a step of the mind for a list of another name's -/
theorem pe_asV (h : PE X e (tOf X.K X.mg W m)) {i : Nat} {D : Ends} : ∀ pins s σ H, Inv X pins σ H s → tS X.K X.mg W io (mSet io i m) D σ H →
    wpAny (model X.prog X.w) X.A (eval e X.env) (EP X pins σ fun x H1 => D.nx (σ.set i (some x)) H1) X.xe s := by
  intro pins s σ H I ⟨ρ, S, q⟩
  unfold mSet at q
  cases e1 : m ρ with
  | stuck => rw [e1] at q; exact q.elim
  | exc x =>
    rw [e1] at q
    exact h.run pins s σ H _ I ⟨ρ, S, by rw [e1]; exact q.exc⟩
  | ok p =>
    obtain ⟨r, ρ1⟩ := p
    rw [e1] at q
    simp only [Ot.bind] at q
    refine thn (h.run pins s σ H (fun v H1 => EPost X.K ρ σ H ρ1 H1 v r) I ⟨ρ, S, by rw [e1]; exact fun v H1 p1 => p1⟩) fun u s1 ⟨v, H1, I1, r1, p1⟩ => ?_
    cases e2 : asV ρ1 r with
    | none => rw [e2] at q; exact q.elim
    | some p =>
      obtain ⟨vl, ρ2⟩ := p
      rw [e2] at q
      simp only at q
      split at q
      · exact q.elim
      · rename_i hc
        have hc : io.contains i = false := by simpa using hc
        cases r with
        | d x =>
          cases e2
          exact ⟨v, H1, I1, r1, q _ _ (p1.mid.s.set hc p1.at_ fun z => by cases z)⟩
        | scr xs =>
          cases e2
          exact ⟨v, H1, I1, r1, q _ _ (p1.mid.s.set hc p1.at_ fun z => by cases z)⟩
        | new xs =>
          cases e2
          obtain ⟨a, vs, ea, hl, rs, no⟩ := p1.at_
          exact ⟨v, H1, I1, r1, q _ _ (p1.mid.s.set hc ⟨a, vs, ea, hl, rs⟩ fun _ b eb => ⟨by rw [ea] at eb; cases eb; exact no, p1.fresh b eb⟩)⟩
        | var j =>
          dsimp only [asV] at e2
          cases e3 : fz (.var j) ρ1 with
          | none => rw [e3] at e2; cases e2
          | some p =>
            obtain ⟨x, ρ3⟩ := p
            rw [e3] at e2
            cases e2
            obtain ⟨H2, I2, p2⟩ := freeze rfl I1 p1 e3
            exact ⟨v, H2, I2, r1, q _ _ (p2.mid.s.set hc p2.at_ fun z => by cases z)⟩
theorem ps_mset {i : Nat} {x : Str} (hN : X.N.Nodup) (hi : X.N[i]? = some x) (hx : Loc X.env.scope x) (he : PE X e (tOf X.K X.mg W m)) (hs : swapsWith e (some (.Name x py)) pos.line X.env = pure false) (hf : X.fn x = true ∨ X.env.scope.names.lookup x = some .local) :
    PS X (.Assign [.Name x py] e pos) (tS X.K X.mg W io (mSet io i m)) := by
  refine ⟨fun pins s σ H D I h => ?_⟩
  refine wpAny_Assign_Name (thn (pe_asV he pins s σ H I h) fun v s1 ⟨y, H1, I1, r1, q1⟩ => ?_) hs
  exact store_ok I1 hN hi hx r1 (fun s2 I2 => ⟨_, H1, I2, q1⟩) hf
end
end Mp
set_option maxHeartbeats 1000000
/-! Mp11: targets, loops. -/
namespace Mp
open PySem PySem.Spec PyProof.Rows L2
section
variable {K : PySem.W.Frag} {mg : Str → Option Value} {W : WX} {io : List Nat} {ρ ρ0 ρ1 ρ2 : Env} {σ σ1 σ2 : L2.St} {H H0 H1 H2 : Hp}
/-- what a name owns is another now -/
theorem Mid.mut {i : Nat} {a : Addr} {bx by' : Bx} {u u' : HO} (S : Sim K ρ σ H) (e : lk ρ i = some (.own bx)) (es : σ[i]? = some (some (.ref a))) (h : H a = some u) (rs : BxAt K H u' by') :
    Mid K ρ σ H (ρ.set i (some (.own by'))) (upd H a u') := by
  have hi := lk_lt e
  have how : Ow ρ σ a := ⟨i, ⟨_, e, rfl⟩, es⟩
  have k : Keep (Ow ρ σ) H (upd H a u') := fun b u eb nb => by rw [upd_ne (by rintro rfl; exact nb how)]; exact eb
  have p := S.pers k
  have g : ∀ j b, OwnAt (ρ.set i (some (.own by'))) σ j b → OwnAt ρ σ j b := by
    rintro j b ⟨⟨vl, e1, e2⟩, e3⟩
    by_cases hj : i = j
    · subst hj
      exact ⟨⟨_, e, rfl⟩, e3⟩
    · rw [lk_set_ne hj] at e1
      exact ⟨⟨vl, e1, e2⟩, e3⟩
  refine ⟨⟨by rw [List.length_set]; exact S.len, fun j vl ej => ?_, fun j k b h1 h2 => S.one j k b (g j b h1) (g k b h2)⟩, k, grow_upd, fun b ⟨j, hj⟩ => ⟨j, g j b hj⟩, fun j vl ej => ?_⟩
  · by_cases hj : i = j
    · subst hj
      rw [lk_set_self hi] at ej
      cases ej
      exact ⟨_, es, a, u', rfl, upd_same, rs.pers p⟩
    · rw [lk_set_ne hj] at ej
      obtain ⟨v, e1, r⟩ := S.rep j vl ej
      refine ⟨v, e1, ?_⟩
      cases vl with
      | d x => exact RepD.pers p r
      | scr zs =>
        obtain ⟨b, us, ea, hl, rs'⟩ := r
        exact ⟨b, us, ea, p.scL hl, RepDs.pers p rs'⟩
      | own zs =>
        obtain ⟨b, us, ea, hl, rs'⟩ := r
        subst ea
        have nb : b ≠ a := by
          rintro rfl
          exact hj (S.one i j _ ⟨⟨_, e, rfl⟩, es⟩ ⟨⟨_, ej, rfl⟩, e1⟩)
        exact ⟨b, us, rfl, by rw [upd_ne nb]; exact hl, rs'.pers p⟩
  · by_cases hj : i = j
    · subst hj
      exact ⟨_, lk_set_self hi⟩
    · exact ⟨vl, by rw [lk_set_ne hj]; exact ej⟩
theorem SMid.pers (S : Sim K ρ σ H) (m : SMid K io ρ σ H ρ1 σ1 H1) : Pers H H1 := S.pers m.keep
theorem Mid.pers (S : Sim K ρ σ H) (m : Mid K ρ σ H ρ1 H1) : Pers H H1 := S.pers m.keep
end
/-! ### targets -/
/-- what a target leaves: nothing more is owned -/
structure GMid (K : PySem.W.Frag) (io : List Nat) (ρ : Env) (σ : L2.St) (H : Hp) (ρ' : Env) (σ' : L2.St) (H' : Hp) : Prop where
  s : SMid K io ρ σ H ρ' σ' H'
  own : ∀ a, Ow ρ' σ' a → Ow ρ σ a
  dom : ∀ i vl, lk ρ i = some vl → ∃ vl', lk ρ' i = some vl'
theorem GMid.refl {K : PySem.W.Frag} {io : List Nat} {ρ : Env} {σ : L2.St} {H : Hp} (S : Sim K ρ σ H) : GMid K io ρ σ H ρ σ H := ⟨SMid.refl S, fun _ h => h, fun _ vl h => ⟨vl, h⟩⟩
theorem GMid.trans {K : PySem.W.Frag} {io : List Nat} {ρ ρ1 ρ2 : Env} {σ σ1 σ2 : L2.St} {H H1 H2 : Hp} (p : GMid K io ρ σ H ρ1 σ1 H1) (q : GMid K io ρ1 σ1 H1 ρ2 σ2 H2) : GMid K io ρ σ H ρ2 σ2 H2 :=
  ⟨p.s.trans q.s, fun a h => p.own a (q.own a h), fun i vl h => by
    obtain ⟨vl', h'⟩ := p.dom i vl h
    exact q.dom i vl' h'⟩
theorem Mid.g {K : PySem.W.Frag} {io : List Nat} {ρ ρ1 : Env} {σ : L2.St} {H H1 : Hp} (p : Mid K ρ σ H ρ1 H1) : GMid K io ρ σ H ρ1 σ H1 := ⟨p.s, p.sub, p.dom⟩
abbrev MT := D → Env → Ot Env
def GOut (K : PySem.W.Frag) (mg : Str → Option Value) (W : WX) (io : List Nat) (ρ : Env) (σ : L2.St) (H : Hp) (Q : L2.St → Hp → Prop) : Ot Env → Prop
  | .ok ρ' => ∀ σ' H', GMid K io ρ σ H ρ' σ' H' → Q σ' H'
  | .exc x => ∀ cls d σ' H', ExOk K mg x cls d H' → Keep (Ow ρ σ) H H' → W cls d σ' H'
  | .stuck => False
def tG (K : PySem.W.Frag) (mg : Str → Option Value) (W : WX) (io : List Nat) (t : MT) : TG := fun v σ H Q => ∃ ρ x, Sim K ρ σ H ∧ RepD K H v x ∧ GOut K mg W io ρ σ H Q (t x ρ)
def tGs (K : PySem.W.Frag) (mg : Str → Option Value) (W : WX) (io : List Nat) (t : List D → Env → Ot Env) : TGs := fun vs σ H Q => ∃ ρ xs, Sim K ρ σ H ∧ RepDs K H vs xs ∧ GOut K mg W io ρ σ H Q (t xs ρ)
theorem PG.weak {X : Cx} {e : Expr} {t t' : TG} (h : PG X e t) (hw : ∀ v σ H Q, t' v σ H Q → t v σ H Q) : PG X e t' := ⟨fun pins s σ H v u Q I r q => h.run pins s σ H v u Q I r (hw v σ H Q q)⟩
theorem PGs.weak {X : Cx} {e : List Expr} {t t' : TGs} (h : PGs X e t) (hw : ∀ v σ H Q, t' v σ H Q → t v σ H Q) : PGs X e t' := ⟨fun pins s σ H v u Q I r q => h.run pins s σ H v u Q I r (hw v σ H Q q)⟩
def gNm (io : List Nat) (i : Nat) : MT := fun x ρ => if io.contains i then .stuck else .ok (ρ.set i (some (.d x)))
def gs0 : List D → Env → Ot Env := fun xs ρ => match xs with
  | [] => .ok ρ
  | _ => .stuck
def gs1 (t : MT) (u : List D → Env → Ot Env) : List D → Env → Ot Env := fun xs ρ => match xs with
  | [] => .stuck
  | x :: xs => (t x ρ).bind fun ρ1 => u xs ρ1
def gTp (n : Nat) (u : List D → Env → Ot Env) : MT := fun x ρ => match x with
  | .tuple xs => if xs.length = n then u xs ρ else .stuck
  | _ => .stuck
def gSb (a b : M) : MT := fun x ρ => (a ρ).bind fun p => (b p.2).bind fun q => match p.1, q.1 with
  | .var i, .d (.int k) => match lk q.2 i with
    | some (.own (.lst xs)) => match ixN xs.length k with
      | some j => .ok (q.2.set i (some (.own (.lst (xs.set j x)))))
      | none => .stuck
    | _ => .stuck
  | _, _ => .stuck
section
variable {K : PySem.W.Frag} {mg : Str → Option Value} {W : WX} {io : List Nat} {ρ ρ0 ρ1 ρ2 : Env} {σ σ1 σ2 : L2.St} {H H0 H1 H2 : Hp}
theorem GOut.after {Q : L2.St → Hp → Prop} {o : Ot Env} (p : GMid K io ρ σ H ρ1 σ1 H1) (q : GOut K mg W io ρ σ H Q o) : GOut K mg W io ρ1 σ1 H1 Q o := by
  cases o with
  | stuck => exact q
  | exc x => exact fun cls d σ' H' e k => q cls d σ' H' e (p.s.keep.trans k p.s.sub)
  | ok ρ' => exact fun σ' H' m => q σ' H' (p.trans m)
theorem GOut.imp {Q Q1 : L2.St → Hp → Prop} {o : Ot Env} (q : GOut K mg W io ρ σ H Q o) (h : ∀ σ' H', Q σ' H' → Q1 σ' H') : GOut K mg W io ρ σ H Q1 o := by
  cases o with
  | stuck => exact q
  | exc x => exact q
  | ok ρ' => exact fun σ' H' m => h _ _ (q σ' H' m)
end
section
variable {X : Cx} {W : WX} {io : List Nat} {e a b : Expr} {es : List Expr} {pos : Pos} {m ma mb : M} {t : MT} {u : List D → Env → Ot Env}
theorem pg_mname {i : Nat} {x : Str} (hN : X.N.Nodup) (hi : X.N[i]? = some x) (hx : Loc X.env.scope x) (hf : X.fn x = true ∨ X.env.scope.names.lookup x = some .local) : PG X (.Name x pos) (tG X.K X.mg W io (gNm io i)) := by
  refine PG.weak (pg_name hN hi hx hf) fun v σ H Q ⟨ρ, x, S, r, q⟩ => ?_
  unfold gNm at q
  split at q
  · exact q.elim
  · rename_i hc
    refine q _ _ ⟨(SMid.refl S).set (by simpa using hc) r (fun z => by cases z), fun a h => ?_, fun j vl e => ?_⟩
    · exact (ow_sets S h).elim (fun z => by cases z.1) id
    · by_cases hj : i = j
      · subst hj; exact ⟨_, lk_set_self (lk_lt e)⟩
      · exact ⟨vl, by rw [lk_set_ne hj]; exact e⟩
theorem pgs_mnil : PGs X [] (tGs X.K X.mg W io gs0) := by
  refine PGs.weak pgs_nil fun vs σ H Q ⟨ρ, xs, S, r, q⟩ => ?_
  cases r with
  | nil => exact ⟨rfl, q _ _ (GMid.refl S)⟩
  | cons _ _ => exact q.elim
theorem pgs_mcons (h1 : PG X e (tG X.K X.mg W io t)) (h2 : PGs X es (tGs X.K X.mg W io u)) (hs : (assignEach (e :: es) X.env).map (·.2) = assign e X.env :: (assignEach es X.env).map (·.2)) : PGs X (e :: es) (tGs X.K X.mg W io (gs1 t u)) := by
  refine PGs.weak (pgs_cons h1 h2 hs) fun vs σ H Q ⟨ρ, xs, S, r, q⟩ => ?_
  cases r with
  | nil => exact q.elim
  | @cons v vr x xr r rr =>
    refine ⟨v, vr, rfl, ρ, x, S, r, ?_⟩
    dsimp only [gs1] at q
    cases e1 : t x ρ with
    | stuck => rw [e1] at q; exact q.elim
    | exc y => rw [e1] at q; exact q
    | ok ρ1 =>
      rw [e1] at q
      exact fun σ1 H1 m1 => ⟨ρ1, xr, m1.s.sim, RepDs.pers (m1.s.pers S) rr, GOut.after m1 q⟩
theorem pg_mtup {k n : Nat} (hc : X.calm = true) (h : PGs X es (tGs X.K X.mg W io u)) (hn : (assignEach es X.env).length = n) (hst : (assignEach es X.env).findIdx? (·.1) = none) : PG X (.Tuple es k pos) (tG X.K X.mg W io (gTp n u)) := by
  refine PG.weak (pg_tup hc h hn hst) fun v σ H Q ⟨ρ, x, S, r, q⟩ => ?_
  cases r with
  | @tup p xs ds hq rs =>
    dsimp only [gTp] at q
    split at q
    · rename_i hl
      exact ⟨p, xs, rfl, hq, by rw [rs.length]; exact hl, ρ, ds, S, rs, q⟩
    · exact q.elim
  | _ => exact q.elim
theorem pg_msub (ha : PE X a (tOf X.K X.mg W ma)) (hb : PE X b (tOf X.K X.mg W mb))
    (hs : ∀ v, assign (.Subscript a b pos) X.env v = (do
      let ov ← holding [v] (eval a X.env)
      let iv ← holding [v, ov] (eval b X.env)
      standAt pos
      holding [v, ov, iv] (setItem ov iv v)
      release [v, ov, iv] [])) : PG X (.Subscript a b pos) (tG X.K X.mg W io (gSb ma mb)) := by
  refine PG.weak (pg_sub ha hb set_list hs) fun v σ H Q ⟨ρ, x, S, r, q⟩ => ⟨ρ, S, ?_⟩
  dsimp only [gSb] at q
  cases e1 : ma ρ with
  | stuck => rw [e1] at q; exact q.elim
  | exc x => rw [e1] at q; exact fun cls d H' ex k => q cls d σ H' ex k
  | ok p =>
    obtain ⟨r1, ρ1⟩ := p
    rw [e1] at q
    simp only [Ot.bind] at q
    intro o H1 p1
    refine ⟨ρ1, p1.sim, ?_⟩
    cases e2 : mb ρ1 with
    | stuck => rw [e2] at q; exact q.elim
    | exc x =>
      rw [e2] at q
      exact fun cls d H' ex k => q cls d σ H' ex (p1.keep.trans k fun c z => .inl (p1.sub c z))
    | ok p =>
      obtain ⟨r2, ρ2⟩ := p
      rw [e2] at q
      simp only at q
      intro y H2 p2
      have a1 := RsAt.mid p1.sim p1.at_ p2.mid
      cases r1 <;> try (exact q.elim)
      rename_i i
      cases r2 <;> try (exact q.elim)
      rename_i z
      cases z <;> try (exact q.elim)
      rename_i k
      simp only at q
      cases e3 : lk ρ2 i with
      | none => rw [e3] at q; exact q.elim
      | some vl =>
        rw [e3] at q
        cases vl <;> try (exact q.elim)
        rename_i bx
        cases bx <;> try (exact q.elim)
        rename_i xs
        simp only at q
        cases e4 : ixN xs.length k with
        | none => rw [e4] at q; exact q.elim
        | some j =>
          rw [e4] at q
          have ey : y = .int k := by cases (show RepD X.K H2 y (.int k) from p2.at_); rfl
          obtain ⟨es, _⟩ := a1
          obtain ⟨o', eo, c, u, ec, hl, rs⟩ := p2.sim.rep i _ e3
          rw [es] at eo; cases eo
          subst ec
          obtain ⟨vs, eu, rs⟩ := rs.l
          subst eu
          have m2 := p1.mid.trans p2.mid
          have rx := RepD.pers (m2.pers S) r
          refine ⟨c, vs, k, j, rfl, ey, hl, by rw [rs.length]; exact e4, ?_⟩
          exact q _ _ (m2.trans (Mid.mut (u' := .lst (vs.set j v)) (by' := .lst (xs.set j x)) p2.sim e3 es hl (RepDs.set rx j rs))).g
def mAsg (t : MT) (m : M) : MS := fun ρ => (m ρ).bind fun p => match p.1 with
  | .d x => (t x p.2).bind fun ρ2 => .ok (.next, ρ2)
  | _ => .stuck
theorem ps_masg (he : PE X e (tOf X.K X.mg W m)) (hg : PG X a (tG X.K X.mg W io t)) (hs : swapsWithSole [a] e pos.line X.env = pure false) (hw : swappedStores [a] e X.env = pure none)
    (h1 : (assignEach [a] X.env).map (·.2) = [assign a X.env]) : PS X (.Assign [a] e pos) (tS X.K X.mg W io (mAsg t m)) := by
  refine PS.weak (ps_asg he hg hs hw h1) fun D σ H ⟨ρ, S, q⟩ => ⟨ρ, S, ?_⟩
  unfold mAsg at q
  cases e1 : m ρ with
  | stuck => rw [e1] at q; exact q.elim
  | exc x => rw [e1] at q; exact q.exc
  | ok p =>
    obtain ⟨r, ρ1⟩ := p
    rw [e1] at q
    intro v H1 p1
    cases r with
    | new _ => exact q.elim
    | var _ => exact q.elim
    | scr _ => exact q.elim
    | d x =>
      simp only [Ot.bind] at q
      refine ⟨ρ1, x, p1.sim, p1.at_, ?_⟩
      cases e2 : t x ρ1 with
      | stuck => rw [e2] at q; exact q.elim
      | exc y => rw [e2] at q; exact GOut.after (o := .exc y) (ρ := ρ) (σ := σ) (H := H) p1.mid.g q
      | ok ρ2 => rw [e2] at q; exact fun σ' H' m' => q σ' H' (p1.mid.s.trans m'.s)
end
/-! ### for -/
def YieldsAt (K : PySem.W.Frag) (J : It) (H : Hp) (xs : List D) : Prop :=
  ∀ i H2, Pers H H2 → (xs.length ≤ i → J.stop i H2) ∧ (∀ d, xs[i]? = some d → J.go i H2 ∧ ∀ x H3, J.yld i H2 x H3 → RepD K H3 x d ∧ Keep (fun _ => False) H2 H3 ∧ ∀ a, H3 a = none → H2 a = none)
abbrev MI := Env → Ot (List D × Env)
def IOut (K : PySem.W.Frag) (mg : Str → Option Value) (W : WX) (ρ : Env) (σ : L2.St) (H : Hp) (R : It → Hp → Prop) : Ot (List D × Env) → Prop
  | .ok (xs, ρ') => ∀ J H', Mid K ρ σ H ρ' H' → YieldsAt K J H' xs → R J H'
  | .exc x => ∀ cls d H', ExOk K mg x cls d H' → Keep (Ow ρ σ) H H' → W cls d σ H'
  | .stuck => False
def tI (K : PySem.W.Frag) (mg : Str → Option Value) (W : WX) (m : MI) : TI := fun σ H R => ∃ ρ, Sim K ρ σ H ∧ IOut K mg W ρ σ H R (m ρ)
theorem PI.weak {X : Cx} {tg e : Expr} {t t' : TI} (h : PI X tg e t) (hw : ∀ σ H R, t' σ H R → t σ H R) : PI X tg e t' := ⟨fun pins s σ H R I q => h.run pins s σ H R I (hw σ H R q)⟩
def forGo (g : MT) (b : MS) : List D → Env → Ot (Fl × Env)
  | [], ρ => .ok (.next, ρ)
  | x :: xs, ρ => (g x ρ).bind fun ρ1 => (b ρ1).bind fun p => match p.1 with
    | .next => forGo g b xs p.2
    | .cont => forGo g b xs p.2
    | .brk => .ok (.next, p.2)
    | .ret r => .ok (.ret r, p.2)
def mFor (it : MI) (g : MT) (b : MS) : MS := fun ρ => (it ρ).bind fun p => forGo g b p.1 p.2
section
variable {K : PySem.W.Frag} {mg : Str → Option Value} {W : WX} {io : List Nat} {ρ ρ0 ρ1 ρ2 : Env} {σ σ1 σ2 : L2.St} {H H0 H1 H2 : Hp}
/-- more heap, all kept -/
theorem Mid.keepAll (S : Sim K ρ σ H) (k : Keep (fun _ => False) H H1) (g : ∀ a, H1 a = none → H a = none) : Mid K ρ σ H ρ H1 := by
  have k' : Keep (Ow ρ σ) H H1 := k.mono fun _ z => z.elim
  exact ⟨S.heap (S.pers k') fun a vs _ e => k a _ e id, k', g, fun _ h => h, fun _ vl h => ⟨vl, h⟩⟩
end
section
variable {X : Cx} {W : WX} {io : List Nat} {tg iter c : Expr} {body : List Stmt} {pos : Pos} {mi : MI} {t : MT} {b : MS} {mc : M}
theorem ps_mfor (hp : PassesOwn (model X.prog X.w) X.A X.env X.xe) (hc : X.calm = true) (hi : PI X tg iter (tI X.K X.mg W mi)) (hg : PG X tg (tG X.K X.mg W io t)) (hb : PSs X body (tS X.K X.mg W io b))
    (hs : ∀ x, foldedSetIterable iter X.env x = pure x) : PS X (.For tg iter body [] pos) (tS X.K X.mg W io (mFor mi t b)) := by
  refine PS.weak (ps_for hp hc hi hg hb hs) fun D σ H ⟨ρ, S, q⟩ => ⟨ρ, S, ?_⟩
  unfold mFor at q
  cases e1 : mi ρ with
  | stuck => rw [e1] at q; exact q.elim
  | exc x => rw [e1] at q; exact fun cls d H' ex k => q cls d σ H' ex k
  | ok p =>
    obtain ⟨xs, ρ1⟩ := p
    rw [e1] at q
    simp only [Ot.bind] at q
    intro J H1 m1 Y
    refine ⟨fun i m σ' H' => m = xs.length - i ∧ i ≤ xs.length ∧ ∃ ρ', Sim X.K ρ' σ' H' ∧ Pers H1 H' ∧ SOut X.K X.mg W io ρ' σ' H' D (forGo t b (xs.drop i) ρ'), ⟨xs.length, rfl, Nat.zero_le _, ρ1, m1.sim, Pers.refl _, SOut.after m1.s q⟩, ?_⟩
    rintro i m σ' H' ⟨rfl, hi', ρ', S', P', q'⟩
    by_cases hlt : i < xs.length
    · have hx : xs[i]? = some xs[i] := List.getElem?_eq_getElem hlt
      obtain ⟨go, y⟩ := (Y i H' P').2 _ hx
      have ed : xs.drop i = xs[i] :: xs.drop (i + 1) := List.drop_eq_getElem_cons hlt
      rw [ed] at q'
      dsimp only [forGo] at q'
      refine .inr ⟨go, fun σ2 H2 => ∃ ρ2, Sim X.K ρ2 σ2 H2 ∧ Pers H1 H2 ∧ SOut X.K X.mg W io ρ2 σ2 H2 D (forGo t b (xs.drop (i + 1)) ρ2), fun σ2 H2 ⟨ρ2, h2⟩ => ⟨xs.length - (i + 1), by omega, rfl, hlt, ρ2, h2⟩, fun x H3 yx => ?_⟩
      obtain ⟨rx, k3, g3⟩ := y x H3 yx
      have m3 := Mid.keepAll S' k3 g3
      refine ⟨ρ', xs[i], m3.sim, rx, ?_⟩
      cases e2 : t xs[i] ρ' with
      | stuck => rw [e2] at q'; exact q'.elim
      | exc z => rw [e2] at q'; exact GOut.after (o := .exc z) (ρ := ρ') (σ := σ') (H := H') m3.g q'
      | ok ρ4 =>
        rw [e2] at q'
        simp only [Ot.bind] at q'
        intro σ4 H4 m4
        refine ⟨ρ4, m4.s.sim, ?_⟩
        have m34 : SMid X.K io ρ' σ' H' ρ4 σ4 H4 := m3.s.trans m4.s
        cases e3 : b ρ4 with
        | stuck => rw [e3] at q'; exact q'.elim
        | exc z => rw [e3] at q'; exact SOut.after (o := .exc z) m34 q'
        | ok p =>
          obtain ⟨f, ρ5⟩ := p
          rw [e3] at q'
          simp only at q'
          cases f with
          | next => exact fun σ5 H5 m5 => ⟨ρ5, m5.sim, P'.trans ((m34.trans m5).pers S'), SOut.after (m34.trans m5) q'⟩
          | cont => exact fun σ5 H5 m5 => ⟨ρ5, m5.sim, P'.trans ((m34.trans m5).pers S'), SOut.after (m34.trans m5) q'⟩
          | brk => exact fun σ5 H5 m5 => q' σ5 H5 (m34.trans m5)
          | ret r => exact fun v σ5 H5 m5 a f => q' v σ5 H5 (m34.trans m5) a (f.grow m34.grow)
    · have ei : i = xs.length := by omega
      subst ei
      rw [List.drop_length] at q'
      exact .inl ⟨(Y _ H' P').1 (Nat.le_refl _), q' σ' H' (SMid.refl S')⟩
def whGo (c : M) (b : MS) : Nat → Env → Ot (Fl × Env)
  | 0, _ => .stuck
  | n + 1, ρ => (c ρ).bind fun p => match bo p.1 with
    | some true => (b p.2).bind fun q => match q.1 with
      | .next => whGo c b n q.2
      | .cont => whGo c b n q.2
      | .brk => .ok (.next, q.2)
      | .ret r => .ok (.ret r, q.2)
    | some false => .ok (.next, p.2)
    | none => .stuck
def mWhile (c : M) (b : MS) (n : Nat) : MS := fun ρ => whGo c b n ρ
theorem ps_mwhile {n : Nat} (hp : PassesOwn (model X.prog X.w) X.A X.env X.xe) (hc : PT X c (tT X.K X.mg W mc)) (hb : PSs X body (tS X.K X.mg W io b)) : PS X (.While c body [] pos) (tS X.K X.mg W io (mWhile mc b n)) := by
  refine PS.weak (ps_while hp hc hb) fun D σ H ⟨ρ, S, q⟩ => ?_
  unfold mWhile at q
  refine ⟨fun m σ' H' => ∃ ρ', Sim X.K ρ' σ' H' ∧ SOut X.K X.mg W io ρ' σ' H' D (whGo mc b m ρ'), ⟨n, ρ, S, q⟩, ?_⟩
  rintro m σ' H' ⟨ρ', S', q'⟩
  cases m with
  | zero => exact q'.elim
  | succ m =>
    dsimp only [whGo] at q'
    refine ⟨ρ', S', ?_⟩
    cases e1 : mc ρ' with
    | stuck => rw [e1] at q'; exact q'.elim
    | exc x => rw [e1] at q'; exact fun cls d H1 ex k => q' cls d σ' H1 ex k
    | ok p =>
      obtain ⟨r, ρ1⟩ := p
      rw [e1] at q'
      simp only [Ot.bind] at q'
      cases e2 : bo r with
      | none => rw [e2] at q'; exact q'.elim
      | some k =>
        rw [e2] at q'
        have er := bo_some e2
        subst er
        intro H1 m1
        cases k with
        | false => 
          rw [if_neg Bool.false_ne_true]
          exact q' σ' H1 m1.s
        | true =>
          rw [if_pos rfl]
          simp only at q'
          refine ⟨fun σ2 H2 => ∃ ρ2, Sim X.K ρ2 σ2 H2 ∧ SOut X.K X.mg W io ρ2 σ2 H2 D (whGo mc b m ρ2), fun σ2 H2 h => ⟨m, Nat.lt_succ_self _, h⟩, ρ1, m1.sim, ?_⟩
          cases e3 : b ρ1 with
          | stuck => rw [e3] at q'; exact q'.elim
          | exc z => rw [e3] at q'; exact SOut.after (o := .exc z) m1.s q'
          | ok p =>
            obtain ⟨f, ρ5⟩ := p
            rw [e3] at q'
            simp only at q'
            cases f with
            | next => exact fun σ5 H5 m5 => ⟨ρ5, m5.sim, SOut.after (m1.s.trans m5) q'⟩
            | cont => exact fun σ5 H5 m5 => ⟨ρ5, m5.sim, SOut.after (m1.s.trans m5) q'⟩
            | brk => exact fun σ5 H5 m5 => q' σ5 H5 (m1.s.trans m5)
            | ret r => exact fun v σ5 H5 m5 a f => q' v σ5 H5 (m1.s.trans m5) a (f.grow m1.grow)
end
end Mp
set_option maxHeartbeats 1000000
/-! Mp12: what a loop walks. -/
namespace Mp
open PySem PySem.Spec PyProof.Rows L2 RZ
section
variable {K : PySem.W.Frag} {H : Hp}
theorem keep0 {H : Hp} : Keep (fun _ => False) H H := fun _ _ h _ => h
theorem yl_list {a : Addr} {vs : List V} {xs : List D} (hp : ∀ H2, Pers H H2 → SqL K H2 a vs) (r : RepDs K H vs xs) : YieldsAt K (Itl K a) H xs := fun i H2 p => by
  have hq := hp H2 p
  refine ⟨fun hi => ⟨vs, hq, by rw [r.length]; exact hi⟩, fun d hd => ?_⟩
  obtain ⟨v, ev, rv⟩ := r.get hd
  refine ⟨⟨vs, v, hq, ev⟩, fun x H3 ⟨e, hx⟩ => ?_⟩
  subst e
  have := hx vs hq
  rw [ev] at this
  cases this
  exact ⟨rv.pers p, keep0, fun _ h => h⟩
theorem yl_tup {a : Addr} {vs : List V} {xs : List D} (hp : ∀ H2, Pers H H2 → SqT K H2 a vs) (r : RepDs K H vs xs) : YieldsAt K (Itt K a) H xs := fun i H2 p => by
  have hq := hp H2 p
  refine ⟨fun hi => ⟨vs, hq, by rw [r.length]; exact hi⟩, fun d hd => ?_⟩
  obtain ⟨v, ev, rv⟩ := r.get hd
  refine ⟨⟨vs, v, hq, ev⟩, fun x H3 ⟨e, hx⟩ => ?_⟩
  subst e
  have := hx vs hq
  rw [ev] at this
  cases this
  exact ⟨rv.pers p, keep0, fun _ h => h⟩
def charsD (x : Str) : List D := x.cps.toList.map fun c => .str ⟨#[c]⟩
theorem yl_str {x : Str} : YieldsAt K (Its x) H (charsD x) := fun i H2 p => by
  refine ⟨fun hi => ?_, fun d hd => ?_⟩
  · show x.cps.size ≤ i
    unfold charsD at hi
    rw [List.length_map, Array.length_toList] at hi
    exact hi
  · unfold charsD at hd
    rw [List.getElem?_map] at hd
    obtain ⟨c, hc, e⟩ := Option.map_eq_some_iff.mp hd
    subst e
    rw [Array.getElem?_toList] at hc
    refine ⟨(Array.getElem?_eq_some_iff.mp hc).1, fun v H3 ⟨e, c', hc', ev⟩ => ?_⟩
    subst e; subst ev
    rw [hc] at hc'
    cases hc'
    exact ⟨.str _, keep0, fun _ h => h⟩
def intsD (lo : Int) (n : Nat) : List D := (List.range n).map fun (i : Nat) => PyData.int (lo + (i : Nat))
def stepsD (lo c : Int) (n : Nat) : List D := (List.range n).map fun (i : Nat) => PyData.int (lo + (i : Nat) * c)
theorem yl_range {lo : Int} {n : Nat} : YieldsAt K (Itr lo n) H (intsD lo n) := fun i H2 p => by
  unfold intsD
  refine ⟨fun hi => by rw [List.length_map, List.length_range] at hi; exact hi, fun d hd => ?_⟩
  rw [List.getElem?_map] at hd
  obtain ⟨j, hj, e⟩ := Option.map_eq_some_iff.mp hd
  subst e
  obtain ⟨h1, h2⟩ := List.getElem?_eq_some_iff.mp hj
  rw [List.getElem_range] at h2
  subst h2
  refine ⟨by rw [List.length_range] at h1; exact h1, fun v H3 ⟨e, ev⟩ => ?_⟩
  subst e; subst ev
  exact ⟨.int _, keep0, fun _ h => h⟩
theorem yl_steps {lo c : Int} {n : Nat} : YieldsAt K (Itc lo c n) H (stepsD lo c n) := fun i H2 p => by
  unfold stepsD
  refine ⟨fun hi => by rw [List.length_map, List.length_range] at hi; exact hi, fun d hd => ?_⟩
  rw [List.getElem?_map] at hd
  obtain ⟨j, hj, e⟩ := Option.map_eq_some_iff.mp hd
  subst e
  obtain ⟨h1, h2⟩ := List.getElem?_eq_some_iff.mp hj
  rw [List.getElem_range] at h2
  subst h2
  refine ⟨by rw [List.length_range] at h1; exact h1, fun v H3 ⟨e, ev⟩ => ?_⟩
  subst e; subst ev
  exact ⟨.int _, keep0, fun _ h => h⟩
def pairsD : List D → List D → List D
  | x :: xs, y :: ys => .tuple [x, y] :: pairsD xs ys
  | _, _ => []
theorem pairsD_get : ∀ {xs ys : List D} {i : Nat} {d : D}, (pairsD xs ys)[i]? = some d → ∃ x y, xs[i]? = some x ∧ ys[i]? = some y ∧ d = .tuple [x, y]
  | x :: xs, y :: ys, 0, d, h => by cases h; exact ⟨x, y, rfl, rfl, rfl⟩
  | x :: xs, y :: ys, i + 1, d, h => pairsD_get (xs := xs) (ys := ys) (i := i) h
  | [], _, i, d, h => by cases i <;> cases h
  | _ :: _, [], i, d, h => by cases i <;> cases h
theorem pairsD_len : ∀ {xs ys : List D} {i : Nat}, (pairsD xs ys).length ≤ i → xs.length ≤ i ∨ ys.length ≤ i
  | x :: xs, y :: ys, 0, h => by cases h
  | x :: xs, y :: ys, i + 1, h => (pairsD_len (xs := xs) (ys := ys) (i := i) (Nat.le_of_succ_le_succ h)).elim (fun z => .inl (Nat.succ_le_succ z)) fun z => .inr (Nat.succ_le_succ z)
  | [], _, i, h => .inl (Nat.zero_le _)
  | _ :: _, [], i, h => .inr (Nat.zero_le _)
theorem yl_pair {H2 : Hp} {T : Addr} {v w : V} {x y : D} (hT : H2 T = none) (r1 : RepD K H2 v x) (r2 : RepD K H2 w y) : RepD K (upd H2 T (.tup [v, w])) (.ref T) (.tuple [x, y]) ∧ Keep (fun _ => False) H2 (upd H2 T (.tup [v, w])) ∧ ∀ a, upd H2 T (.tup [v, w]) a = none → H2 a = none :=
  ⟨.tup (.inl (.inl upd_same)) (.cons (r1.pers (pers_upd hT)) (.cons (r2.pers (pers_upd hT)) .nil)), fun b o e _ => by rw [upd_ne (ne_of_none e hT)]; exact e, grow_upd⟩
theorem yl_zip {a b : Addr} {vs ws : List V} {xs ys : List D} (hp : ∀ H2, Pers H H2 → SqL K H2 a vs) (hp' : ∀ H2, Pers H H2 → SqL K H2 b ws) (r : RepDs K H vs xs) (r' : RepDs K H ws ys) : YieldsAt K (Itz K a b) H (pairsD xs ys) := fun i H2 p => by
  have hq := hp H2 p
  have hq' := hp' H2 p
  refine ⟨fun hi => ⟨vs, ws, hq, hq', by rw [r.length, r'.length]; exact pairsD_len hi⟩, fun d hd => ?_⟩
  obtain ⟨x, y, hx, hy, e⟩ := pairsD_get hd
  subst e
  obtain ⟨v, ev, rv⟩ := r.get hx
  obtain ⟨w, ew, rw'⟩ := r'.get hy
  refine ⟨⟨vs, ws, v, w, hq, hq', ev, ew⟩, fun z H3 ⟨T, v', w', ez, hT, eH, h1, h2⟩ => ?_⟩
  subst ez; subst eH
  have h1 := h1 vs hq
  have h2 := h2 ws hq'
  rw [ev] at h1; rw [ew] at h2
  cases h1; cases h2
  exact yl_pair hT (rv.pers p) (rw'.pers p)
theorem yl_zipT {a b : Addr} {vs ws : List V} {xs ys : List D} (hp : ∀ H2, Pers H H2 → SqT K H2 a vs) (hp' : ∀ H2, Pers H H2 → SqT K H2 b ws) (r : RepDs K H vs xs) (r' : RepDs K H ws ys) : YieldsAt K (ItzT K a b) H (pairsD xs ys) := fun i H2 p => by
  have hq := hp H2 p
  have hq' := hp' H2 p
  refine ⟨fun hi => ⟨vs, ws, hq, hq', by rw [r.length, r'.length]; exact pairsD_len hi⟩, fun d hd => ?_⟩
  obtain ⟨x, y, hx, hy, e⟩ := pairsD_get hd
  subst e
  obtain ⟨v, ev, rv⟩ := r.get hx
  obtain ⟨w, ew, rw'⟩ := r'.get hy
  refine ⟨⟨vs, ws, v, w, hq, hq', ev, ew⟩, fun z H3 ⟨T, v', w', ez, hT, eH, h1, h2⟩ => ?_⟩
  subst ez; subst eH
  have h1 := h1 vs hq
  have h2 := h2 ws hq'
  rw [ev] at h1; rw [ew] at h2
  cases h1; cases h2
  exact yl_pair hT (rv.pers p) (rw'.pers p)
/-- (0, x), (1, y), .. -/
def numD : Nat → List D → List D
  | _, [] => []
  | n, x :: xs => .tuple [.int (n : Nat), x] :: numD (n + 1) xs
theorem numD_get : ∀ {xs : List D} {n i : Nat} {d : D}, (numD n xs)[i]? = some d → ∃ x, xs[i]? = some x ∧ d = .tuple [.int ((n + i : Nat)), x]
  | x :: xs, n, 0, d, h => by cases h; exact ⟨x, rfl, rfl⟩
  | x :: xs, n, i + 1, d, h => by
    obtain ⟨y, h1, h2⟩ := numD_get (xs := xs) (n := n + 1) (i := i) h
    exact ⟨y, h1, by rw [h2, show n + 1 + i = n + (i + 1) from by omega]⟩
  | [], n, i, d, h => by cases i <;> cases h
theorem numD_len : ∀ {xs : List D} {n : Nat}, (numD n xs).length = xs.length
  | [], _ => rfl
  | x :: xs, n => congrArg (· + 1) (numD_len (xs := xs) (n := n + 1))
theorem yl_enum {a : Addr} {vs : List V} {xs : List D} (hp : ∀ H2, Pers H H2 → SqL K H2 a vs) (r : RepDs K H vs xs) : YieldsAt K (Ite K a) H (numD 0 xs) := fun i H2 p => by
  have hq := hp H2 p
  refine ⟨fun hi => ⟨vs, hq, by rw [r.length, ← numD_len (n := 0)]; exact hi⟩, fun d hd => ?_⟩
  obtain ⟨x, hx, e⟩ := numD_get hd
  subst e
  obtain ⟨v, ev, rv⟩ := r.get hx
  refine ⟨⟨vs, v, hq, ev⟩, fun z H3 ⟨T, v', ez, hT, eH, h1⟩ => ?_⟩
  subst ez; subst eH
  have h1 := h1 vs hq
  rw [ev] at h1
  cases h1
  rw [Nat.zero_add]
  exact yl_pair hT (.int _) (rv.pers p)
end
/-! ### the readings -/
def seqD : D → Option (List D)
  | .list xs => some xs
  | .tuple xs => some xs
  | .str x => some (charsD x)
  | _ => none
def mIt (m : M) : MI := fun ρ => match m ρ with
  | .ok (.scr xs, ρ1) => .ok (xs, ρ1)
  | _ => (mD m ρ).bind fun p => match p.1 with
    | .d x => match seqD x with
      | some xs => .ok (xs, p.2)
      | none => .stuck
    | _ => .stuck
def allI : List Rs → Option (List Int)
  | [] => some []
  | .d (.int i) :: rs => match allI rs with
    | some is => some (i :: is)
    | none => none
  | _ :: _ => none
def smI (i : Int) : Bool := decide (i.natAbs < 2 ^ 60)
def rg1 : List Int → Option (List D)
  | [j] => if smI j then some (intsD 0 j.toNat) else none
  | _ => none
def rg2 : List Int → Option (List D)
  | [i, j] => if smI i && smI j then some (intsD i (j - i).toNat) else none
  | _ => none
def rg3 : List Int → Option (List D)
  | [i, j, -1] => if smI i && smI j then some (stepsD i (-1) (i - j).toNat) else none
  | _ => none
def mRange (f : List Int → Option (List D)) (ms : List M) : MI := fun ρ => (mAs ms ρ).bind fun p => match allI p.1 with
  | some is => match f is with
    | some xs => .ok (xs, p.2)
    | none => .stuck
  | none => .stuck
def mEnum (m : M) : MI := fun ρ => (mD m ρ).bind fun p => match p.1 with
  | .d (.list xs) => .ok (numD 0 xs, p.2)
  | _ => .stuck
def zipD : D → D → Option (List D)
  | .list xs, .list ys => some (pairsD xs ys)
  | .tuple xs, .tuple ys => some (pairsD xs ys)
  | _, _ => none
def mZip (a b : M) : MI := fun ρ => (mD a ρ).bind fun p => (mD b p.2).bind fun q => match p.1, q.1 with
  | .d x, .d y => match zipD x y with
    | some zs => .ok (zs, q.2)
    | none => .stuck
  | _, _ => .stuck
section
variable {X : Cx} {W : WX} {tg e e2 : Expr} {es : List Expr} {pos p tpos : Pos} {m ma mb : M} {ms : List M}
theorem pi_mIt (h : PE X e (tOf X.K X.mg W m)) : PI X tg e (tI X.K X.mg W (mIt m)) := by
  refine ⟨fun pins s σ H R I ⟨ρ, S, q⟩ => ?_⟩
  have fin : ∀ m' : M, PE X e (tOf X.K X.mg W m') → IOut X.K X.mg W ρ σ H R ((m' ρ).bind fun p => match p.1 with
    | .d x => match seqD x with
      | some xs => .ok (xs, p.2)
      | none => .stuck
    | _ => .stuck) → wpAny (model X.prog X.w) X.A (eval e X.env) (fun v s1 => wpAny (model X.prog X.w) X.A (pyIter v) (PIE X pins σ tg R) X.xe s1) X.xe s := fun m' h' q' => by
    cases e1 : m' ρ with
    | stuck => rw [e1] at q'; exact q'.elim
    | exc x => rw [e1] at q'; exact (pi_list h').run pins s σ H R I ⟨ρ, S, by rw [e1]; exact q'⟩
    | ok p =>
      obtain ⟨r, ρ1⟩ := p
      rw [e1] at q'
      simp only [Ot.bind] at q'
      cases r <;> try (exact q'.elim)
      rename_i x
      cases x <;> try (exact q'.elim)
      case list xs =>
        refine (pi_list h').run pins s σ H R I ⟨ρ, S, ?_⟩
        rw [e1]
        intro v H1 p1
        cases (show RepD X.K H1 v (.list xs) from p1.at_) with
        | lst hq rs => exact ⟨_, rfl, ⟨_, hq.sq⟩, q' _ H1 p1.mid (yl_list (fun H2 pr => (pr.fzL hq).sq) rs)⟩
      case tuple xs =>
        refine (pi_tup h').run pins s σ H R I ⟨ρ, S, ?_⟩
        rw [e1]
        intro v H1 p1
        cases (show RepD X.K H1 v (.tuple xs) from p1.at_) with
        | tup hq rs => exact ⟨_, rfl, ⟨_, hq⟩, q' _ H1 p1.mid (yl_tup (fun H2 pr => pr.sqT hq) rs)⟩
      case str x =>
        refine (pi_str h').run pins s σ H R I ⟨ρ, S, ?_⟩
        rw [e1]
        intro v H1 p1
        cases (show RepD X.K H1 v (.str x) from p1.at_)
        exact ⟨x, rfl, q' _ H1 p1.mid yl_str⟩
  unfold mIt at q
  cases e1 : m ρ with
  | stuck => rw [e1] at q; exact fin _ (pe_mD h) q
  | exc x => rw [e1] at q; exact fin _ (pe_mD h) q
  | ok p =>
    obtain ⟨r, ρ1⟩ := p
    rw [e1] at q
    cases r with
    | d x => exact fin _ (pe_mD h) q
    | new x => exact fin _ (pe_mD h) q
    | var x => exact fin _ (pe_mD h) q
    | scr xs =>
      refine (pi_list h).run pins s σ H R I ⟨ρ, S, ?_⟩
      rw [e1]
      intro v H1 p1
      obtain ⟨a, vs, ev, hq, rs⟩ := p1.at_
      exact ⟨a, ev, ⟨vs, hq.sq⟩, q _ H1 p1.mid (yl_list (fun H2 pr => (pr.scL hq).sq) rs)⟩
theorem allI_rep {K : PySem.W.Frag} {ρ : Env} {σ : L2.St} {H : Hp} : ∀ {vs : List V} {rs : List Rs} {is : List Int}, RsAll K ρ σ H vs rs → allI rs = some is → vs = is.map V.int
  | _, _, _, .nil, h => by cases h; rfl
  | _, _, _, .cons (r := r) (rs := rs) a t, h => by
    cases r with
    | d x =>
      cases x with
      | int i =>
        unfold allI at h
        cases e2 : allI rs with
        | none => rw [e2] at h; cases h
        | some is =>
          rw [e2] at h
          cases h
          cases (show RepD K H _ (.int i) from a)
          rw [allI_rep t e2]
          rfl
      | _ => cases h
    | new _ => cases h
    | var _ => cases h
    | scr _ => cases h
theorem smI_ok {i : Int} (h : smI i = true) : -(2 ^ 62) ≤ i ∧ i < 2 ^ 62 := by
  unfold smI at h
  simp only [decide_eq_true_eq] at h
  omega
theorem tAr_as {K : PySem.W.Frag} {mg : Str → Option Value} {σ : L2.St} {H : Hp} {ρ : Env} (S : Sim K ρ σ H) {R : It → Hp → Prop} {f : List Int → Option (List D)} {Q : List V → Hp → Prop}
    (q : IOut K mg W ρ σ H R ((mAs ms ρ).bind fun p => match allI p.1 with
      | some is => match f is with
        | some xs => .ok (xs, p.2)
        | none => .stuck
      | none => .stuck)) (g : ∀ is xs ρ1 H1, f is = some xs → Mid K ρ σ H ρ1 H1 → (∀ J, YieldsAt K J H1 xs → R J H1) → Q (is.map V.int) H1) : tAr K mg W ms σ H Q := by
  refine ⟨ρ, S, ?_⟩
  cases e1 : mAs ms ρ with
  | stuck => rw [e1] at q; exact q.elim
  | exc x => rw [e1] at q; exact q
  | ok p =>
    obtain ⟨rs, ρ1⟩ := p
    rw [e1] at q
    simp only [Ot.bind] at q
    intro vs H1 m1 ra nd
    cases e2 : allI rs with
    | none => rw [e2] at q; exact q.elim
    | some is =>
      rw [e2] at q
      simp only at q
      cases e3 : f is with
      | none => rw [e3] at q; exact q.elim
      | some xs =>
        rw [e3] at q
        rw [allI_rep ra e2]
        exact g is xs ρ1 H1 e3 m1 fun J y => q J H1 m1 y
theorem pi_mRange1 (hg : Gl X "range") (hm : X.mg "range" = none) (ha : PA X [e] (tAr X.K X.mg W ms)) (hs : starEach [e] X.env = [(false, eval e X.env)]) : PI X tg (.Call (.Name "range" p) [e] [] pos) (tI X.K X.mg W (mRange rg1 ms)) := by
  refine PI.weak (pi_range1 hg hm ha hs) fun σ H R ⟨ρ, S, q⟩ => tAr_as S q fun is xs ρ1 H1 e m g => ?_
  unfold rg1 at e
  split at e
  · split at e
    · rename_i hj
      cases e
      have := smI_ok hj
      exact ⟨_, rfl, this.1, this.2, g _ yl_range⟩
    · cases e
  · cases e
theorem pi_mRange2 {a b : Expr} (hg : Gl X "range") (hm : X.mg "range" = none) (ha : PA X [a, b] (tAr X.K X.mg W ms)) (hs : starEach [a, b] X.env = [(false, eval a X.env), (false, eval b X.env)]) (hs2 : starEach [b] X.env = [(false, eval b X.env)]) :
    PI X tg (.Call (.Name "range" p) [a, b] [] pos) (tI X.K X.mg W (mRange rg2 ms)) := by
  refine PI.weak (pi_range2 hg hm ha hs hs2) fun σ H R ⟨ρ, S, q⟩ => tAr_as S q fun is xs ρ1 H1 e m g => ?_
  unfold rg2 at e
  split at e
  · split at e
    · rename_i hj
      cases e
      obtain ⟨h1, h2⟩ := (Bool.and_eq_true _ _).mp hj
      exact ⟨_, _, rfl, ⟨(smI_ok h1).1, (smI_ok h1).2, (smI_ok h2).1, (smI_ok h2).2⟩, g _ yl_range⟩
    · cases e
  · cases e
theorem pi_mRange3 {a b c : Expr} (hg : Gl X "range") (hm : X.mg "range" = none) (ha : PA X [a, b, c] (tAr X.K X.mg W ms)) (hs : starEach [a, b, c] X.env = (false, eval a X.env) :: starEach [b, c] X.env) (hpl : (backTo pos (starEach [b, c] X.env)).any (·.1) = false) :
    PI X tg (.Call (.Name "range" p) [a, b, c] [] pos) (tI X.K X.mg W (mRange rg3 ms)) := by
  refine PI.weak (pi_range3 hg hm ha hs hpl) fun σ H R ⟨ρ, S, q⟩ => tAr_as S q fun is xs ρ1 H1 e m g => ?_
  unfold rg3 at e
  split at e
  · split at e
    · rename_i hj
      cases e
      obtain ⟨h1, h2⟩ := (Bool.and_eq_true _ _).mp hj
      exact ⟨_, _, _, _, rfl, RgC.neg (smI_ok h1).1 (smI_ok h1).2 (smI_ok h2).1 (smI_ok h2).2, g _ yl_steps⟩
    · cases e
  · cases e
theorem pi_mEnum {elts : List Expr} {kk : Nat} (hg : Gl X "enumerate") (hm : X.mg "enumerate" = none) (he : PE X e (tOf X.K X.mg W m)) (hs : starEach [e] X.env = [(false, eval e X.env)]) (hs1 : starEach [e] X.env = (false, eval e X.env) :: starEach [] X.env) :
    PI X (.Tuple elts kk tpos) (.Call (.Name "enumerate" p) [e] [] pos) (tI X.K X.mg W (mEnum m)) := by
  refine PI.weak (pi_enum hg hm (pa_cons (pe_mD he) pa_nil hs1) hs) fun σ H R ⟨ρ, S, q⟩ => ⟨ρ, S, ?_⟩
  unfold mEnum at q
  cases e1 : mD m ρ with
  | stuck => rw [e1] at q; exact q.elim
  | exc x => rw [e1] at q; exact q
  | ok p =>
    obtain ⟨r, ρ1⟩ := p
    rw [e1] at q
    simp only [Ot.bind] at q
    intro v H1 p1
    cases r <;> try (exact q.elim)
    rename_i x
    cases x <;> try (exact q.elim)
    rename_i xs
    cases (show RepD X.K H1 v (.list xs) from p1.at_) with
    | lst hq rs => exact ⟨_, _, rfl, hq.sq, q _ H1 p1.mid (yl_enum (fun H2 pr => (pr.fzL hq).sq) rs)⟩
theorem pi_mZip {elts : List Expr} {kk : Nat} (hg : Gl X "zip") (hm : X.mg "zip" = none) (ha : PE X e (tOf X.K X.mg W ma)) (hb : PE X e2 (tOf X.K X.mg W mb))
    (hs : starEach [e, e2] X.env = (false, eval e X.env) :: starEach [e2] X.env) (hs2 : starEach [e2] X.env = (false, eval e2 X.env) :: starEach [] X.env) (hpl : (backTo pos (starEach [e2] X.env)).any (·.1) = false) :
    PI X (.Tuple elts kk tpos) (.Call (.Name "zip" p) [e, e2] [] pos) (tI X.K X.mg W (mZip ma mb)) := by
  refine PI.weak (pi_zipA hg hm (pa_cons (pe_mD ha) (pa_cons (pe_mD hb) pa_nil hs2) hs) hs hpl) fun σ H R ⟨ρ, S, q⟩ => ⟨ρ, S, ?_⟩
  unfold mZip at q
  cases e1 : mD ma ρ with
  | stuck => rw [e1] at q; exact q.elim
  | exc x => rw [e1] at q; exact q
  | ok p =>
    obtain ⟨r1, ρ1⟩ := p
    rw [e1] at q
    simp only [Ot.bind] at q
    intro x H1 p1
    refine ⟨ρ1, p1.sim, ?_⟩
    cases e2 : mD mb ρ1 with
    | stuck => rw [e2] at q; exact q.elim
    | exc x =>
      rw [e2] at q
      exact fun cls d H' ex k => q cls d H' ex (p1.keep.trans k fun c z => .inl (p1.sub c z))
    | ok p =>
      obtain ⟨r2, ρ2⟩ := p
      rw [e2] at q
      simp only at q
      intro y H2 p2
      have a1 := RsAt.mid p1.sim p1.at_ p2.mid
      cases r1 <;> try (exact q.elim)
      cases r2 <;> (try (exact q.elim))
      rename_i dx dy
      cases dx <;> (try (exact q.elim)) <;> cases dy <;> (try (exact q.elim))
      · rename_i xs ys
        cases (show RepD X.K H2 x (.list xs) from a1) with
        | lst hq rs =>
          cases (show RepD X.K H2 y (.list ys) from p2.at_) with
          | lst hq' rs' => exact ⟨_, _, _, _, rfl, .inl ⟨hq.sq, hq'.sq, q _ H2 (p1.mid.trans p2.mid) (yl_zip (fun H2 pr => (pr.fzL hq).sq) (fun H2 pr => (pr.fzL hq').sq) rs rs')⟩⟩
      · rename_i xs ys
        cases (show RepD X.K H2 x (.tuple xs) from a1) with
        | tup hq rs =>
          cases (show RepD X.K H2 y (.tuple ys) from p2.at_) with
          | tup hq' rs' => exact ⟨_, _, _, _, rfl, .inr ⟨hq, hq', q _ H2 (p1.mid.trans p2.mid) (yl_zipT (fun H2 pr => pr.sqT hq) (fun H2 pr => pr.sqT hq') rs rs')⟩⟩
end
end Mp
set_option maxHeartbeats 1000000
/-! Mp13: comprehensions. -/
namespace Mp
open PySem PySem.Spec PyProof.Rows L2
/-- some names forgotten -/
def wipeE (ρ : Env) : List Nat → Env
  | [] => ρ
  | v :: vs => (wipeE ρ vs).set v none
/-- at those names as before -/
def restE (ρ0 ρ : Env) : List Nat → Env
  | [] => ρ
  | v :: vs => (restE ρ0 ρ vs).set v (lk ρ0 v)
theorem wipeE_len (ρ : Env) : ∀ vs : List Nat, (wipeE ρ vs).length = ρ.length
  | [] => rfl
  | v :: vs => by unfold wipeE; rw [List.length_set, wipeE_len ρ vs]
theorem restE_len (ρ0 ρ : Env) : ∀ vs : List Nat, (restE ρ0 ρ vs).length = ρ.length
  | [] => rfl
  | v :: vs => by unfold restE; rw [List.length_set, restE_len ρ0 ρ vs]
theorem lk_none_of {ρ : Env} {i : Nat} (h : ¬ i < ρ.length) : lk ρ i = none := by
  cases e : lk ρ i with
  | none => rfl
  | some vl => exact absurd (lk_lt e) h
theorem lk_wipe_in {ρ : Env} {i : Nat} : ∀ {vs : List Nat}, i ∈ vs → lk (wipeE ρ vs) i = none
  | v :: vs, h => by
    unfold wipeE
    by_cases e : v = i
    · subst e
      by_cases l : v < (wipeE ρ vs).length
      · exact lk_set_self l
      · exact lk_none_of (by rw [List.length_set]; exact l)
    · rw [lk_set_ne e]
      rcases List.mem_cons.mp h with z | z
      · exact absurd z.symm e
      · exact lk_wipe_in z
theorem lk_wipe_out {ρ : Env} {i : Nat} : ∀ {vs : List Nat}, i ∉ vs → lk (wipeE ρ vs) i = lk ρ i
  | [], _ => rfl
  | v :: vs, h => by
    unfold wipeE
    rw [lk_set_ne fun e => h (by rw [e]; exact List.mem_cons_self)]
    exact lk_wipe_out fun m => h (List.mem_cons_of_mem _ m)
theorem lk_rest_in {ρ0 ρ : Env} {i : Nat} (hl : ρ0.length = ρ.length) : ∀ {vs : List Nat}, i ∈ vs → lk (restE ρ0 ρ vs) i = lk ρ0 i
  | v :: vs, h => by
    unfold restE
    by_cases e : v = i
    · subst e
      by_cases l : v < (restE ρ0 ρ vs).length
      · exact lk_set_self l
      · rw [lk_none_of (by rw [List.length_set]; exact l), lk_none_of (by rw [restE_len] at l; rw [hl]; exact l)]
    · rw [lk_set_ne e]
      rcases List.mem_cons.mp h with z | z
      · exact absurd z.symm e
      · exact lk_rest_in hl z
theorem lk_rest_out {ρ0 ρ : Env} {i : Nat} : ∀ {vs : List Nat}, i ∉ vs → lk (restE ρ0 ρ vs) i = lk ρ i
  | [], _ => rfl
  | v :: vs, h => by
    unfold restE
    rw [lk_set_ne fun e => h (by rw [e]; exact List.mem_cons_self)]
    exact lk_rest_out fun m => h (List.mem_cons_of_mem _ m)
section
variable {K : PySem.W.Frag} {mg : Str → Option Value} {W : WX} {ρ ρ0 ρ1 ρ2 : Env} {σ σ1 σ2 : L2.St} {H H0 H1 H2 : Hp} {vs : List Nat}
theorem own_wipe {i : Nat} {a : Addr} (h : OwnAt (wipeE ρ vs) (wipe σ vs) i a) : i ∉ vs ∧ OwnAt ρ σ i a := by
  obtain ⟨⟨vl, e1, e2⟩, e3⟩ := h
  by_cases m : i ∈ vs
  · rw [lk_wipe_in m] at e1; cases e1
  · rw [lk_wipe_out m] at e1
    rw [wipe_out m] at e3
    exact ⟨m, ⟨vl, e1, e2⟩, e3⟩
theorem own_unwipe {i : Nat} {a : Addr} (m : i ∉ vs) (h : OwnAt ρ σ i a) : OwnAt (wipeE ρ vs) (wipe σ vs) i a := by
  obtain ⟨⟨vl, e1, e2⟩, e3⟩ := h
  exact ⟨⟨vl, by rw [lk_wipe_out m]; exact e1, e2⟩, by rw [wipe_out m]; exact e3⟩
theorem Sim.wipe (S : Sim K ρ σ H) : Sim K (wipeE ρ vs) (wipe σ vs) H := by
  refine ⟨by rw [wipe_length, wipeE_len]; exact S.len, fun i vl e => ?_, fun i j a h1 h2 => S.one i j a (own_wipe h1).2 (own_wipe h2).2⟩
  by_cases m : i ∈ vs
  · rw [lk_wipe_in m] at e; cases e
  · rw [lk_wipe_out m] at e
    rw [wipe_out m]
    exact S.rep i vl e
theorem ow_wipe {a : Addr} (h : Ow (wipeE ρ vs) (L2.wipe σ vs) a) : Ow ρ σ a := by
  obtain ⟨i, h⟩ := h
  exact ⟨i, (own_wipe h).2⟩
theorem wipe_eq (hl : σ1.length = σ2.length) (h : ∀ j, j ∉ vs → σ1[j]? = σ2[j]?) : L2.wipe σ1 vs = L2.wipe σ2 vs := by
  apply List.ext_getElem?
  intro j
  by_cases m : j ∈ vs
  · have g : ∀ σ : L2.St, (L2.wipe σ vs)[j]? = if j < σ.length then some none else none := by
      intro σ
      clear h hl
      induction vs with
      | nil => cases m
      | cons v vs ih =>
        unfold L2.wipe
        by_cases e : v = j
        · subst e
          by_cases l : v < (L2.wipe σ vs).length
          · rw [List.getElem?_set_self l, if_pos (by rw [wipe_length] at l; exact l)]
          · rw [List.getElem?_eq_none (by simpa using l), if_neg (by rw [wipe_length] at l; exact l)]
        · rw [List.getElem?_set_ne e]
          rcases List.mem_cons.mp m with z | z
          · exact absurd z.symm e
          · exact ih z
    rw [g, g, hl]
  · rw [wipe_out m, wipe_out m]
    exact h j m
/-- no exception -/
def Ot.nx {α : Type} : Ot α → Ot α
  | .ok a => .ok a
  | _ => .stuck
/-- inside a block: nothing is raised -/
def W0 : WX := fun _ _ _ _ => False
/-- in the block: what a turn leaves; the new list at D -/
structure LMid (K : PySem.W.Frag) (D : Addr) (ρ : Env) (σ : L2.St) (H : Hp) (ρ' : Env) (H' : Hp) : Prop where
  sim : Sim K ρ' σ H'
  keep : Keep (fun a => Ow ρ σ a ∨ a = D) H H'
  grow : ∀ a, H' a = none → H a = none
  sub : ∀ a, Ow ρ' σ a → Ow ρ σ a
  dom : ∀ i vl, lk ρ i = some vl → ∃ vl', lk ρ' i = some vl'
end
/-- the turns -/
def lcGo (n : Nat) (g : MT) (tt te : M) (vs : List Nat) : List D → Env → List D → Ot (List D × Env)
  | [], ρ, acc => .ok (acc, ρ)
  | x :: xs, ρ, acc => (g x ρ).nx.bind fun ρ1 => if ρ1.length = n then (tt ρ1).nx.bind fun p => match bo p.1 with
    | some true => (mD te p.2).nx.bind fun q => match q.1 with
      | .d y => if acc.length < sizeLine then lcGo n g tt te vs xs (wipeE q.2 vs) (acc ++ [y]) else .stuck
      | _ => .stuck
    | some false => lcGo n g tt te vs xs (wipeE p.2 vs) acc
    | none => .stuck
   else .stuck
def mLc (n : Nat) (it : MI) (g : MT) (tt te : M) (vs : List Nat) : M := fun ρ => (it ρ).bind fun p => if p.2.length = n then
    (lcGo n g tt te vs p.1 (wipeE p.2 vs) []).nx.bind fun q => .ok (.new (.lst q.1), restE p.2 q.2 vs)
  else .stuck
def mYes : M := mK (.bool true)
/-- all names but those of the block -/
def outs (n : Nat) (vs : List Nat) : List Nat := (List.range n).filter fun i => !vs.contains i
theorem nx_ok {α : Type} {o : Ot α} {a : α} (h : o.nx = .ok a) : o = .ok a := by
  cases o <;> cases h
  rfl
section
variable {K : PySem.W.Frag} {mg : Str → Option Value} {W : WX} {ρ ρ0 ρ1 ρ2 : Env} {σ σ1 σ2 : L2.St} {H H0 H1 H2 : Hp} {vs : List Nat}
theorem SMid.block {n : Nat} {σ0 : L2.St} (S : Sim K ρ (L2.wipe σ0 vs) H) (hn : ρ.length = n) (m : SMid K (outs n vs) ρ (L2.wipe σ0 vs) H ρ1 σ1 H1) (hl : ρ1.length = n) : L2.wipe σ1 vs = L2.wipe σ0 vs := by
  have e : L2.wipe σ1 vs = L2.wipe (L2.wipe σ0 vs) vs := by
    have l1 : σ1.length = n := by rw [m.sim.len]; exact hl
    have l0 : (L2.wipe σ0 vs).length = n := by rw [S.len]; exact hn
    refine wipe_eq (by rw [l1, l0]) fun j hj => ?_
    by_cases hjn : j < n
    · refine m.fix j ?_
      unfold outs
      rw [List.mem_filter]
      exact ⟨List.mem_range.mpr hjn, by simp [hj]⟩
    · rw [List.getElem?_eq_none (by omega), List.getElem?_eq_none (by omega)]
  rw [e]
  exact wipe_eq (wipe_length _ _) fun j hj => wipe_out hj
/-- the block is left -/
theorem LMid.fin {C : Addr} (S : Sim K ρ1 σ H1) (hD : H1 C = none) (m : LMid K C (wipeE ρ1 vs) (L2.wipe σ vs) (upd H1 C (.lst [])) ρ2 H2) : Mid K ρ1 σ H1 (restE ρ1 ρ2 vs) H2 ∧ ¬ Ow (restE ρ1 ρ2 vs) σ C := by
  have hl : ρ1.length = ρ2.length := by rw [← S.len, ← wipe_length σ vs, m.sim.len]
  have inn : ∀ i a, i ∈ vs → OwnAt (restE ρ1 ρ2 vs) σ i a → OwnAt ρ1 σ i a := by
    rintro i a hi ⟨⟨vl, e1, e2⟩, e3⟩
    rw [lk_rest_in hl hi] at e1
    exact ⟨⟨vl, e1, e2⟩, e3⟩
  have out : ∀ i a, i ∉ vs → OwnAt (restE ρ1 ρ2 vs) σ i a → OwnAt ρ2 (L2.wipe σ vs) i a := by
    rintro i a hi ⟨⟨vl, e1, e2⟩, e3⟩
    rw [lk_rest_out hi] at e1
    exact ⟨⟨vl, e1, e2⟩, by rw [wipe_out hi]; exact e3⟩
  have mix : ∀ i j a, i ∈ vs → j ∉ vs → OwnAt (restE ρ1 ρ2 vs) σ i a → OwnAt (restE ρ1 ρ2 vs) σ j a → False := by
    intro i j a hi hj h1 h2
    obtain ⟨k, hk⟩ := m.sub a ⟨j, out j a hj h2⟩
    have := own_wipe hk
    exact this.1 (S.one i k a (inn i a hi h1) this.2 ▸ hi)
  have sub : ∀ a, Ow (restE ρ1 ρ2 vs) σ a → Ow ρ1 σ a := by
    rintro a ⟨i, h⟩
    by_cases hi : i ∈ vs
    · exact ⟨i, inn i a hi h⟩
    · exact ow_wipe (m.sub a ⟨i, out i a hi h⟩)
  have k2 : ∀ b o, H1 b = some o → ¬ Ow (wipeE ρ1 vs) (L2.wipe σ vs) b → H2 b = some o := fun b o e n => by
    have nb : b ≠ C := ne_of_none e hD
    exact m.keep b o (by rw [upd_ne nb]; exact e) fun z => z.elim n nb
  have kp : Keep (Ow ρ1 σ) H1 H2 := fun b o e n => k2 b o e fun z => n (ow_wipe z)
  have pr := S.pers kp
  refine ⟨⟨⟨by rw [restE_len, ← hl]; exact S.len, fun i vl e => ?_, fun i j a h1 h2 => ?_⟩, kp, fun a e => grow_upd a (m.grow a e), sub, fun i vl e => ?_⟩, fun h => ?_⟩
  · by_cases hi : i ∈ vs
    · rw [lk_rest_in hl hi] at e
      obtain ⟨v, e1, r⟩ := S.rep i vl e
      refine ⟨v, e1, ?_⟩
      cases vl with
      | d x => exact RepD.pers pr r
      | scr ys =>
        obtain ⟨b, ws, ea, hq, rs⟩ := r
        exact ⟨b, ws, ea, pr.scL hq, RepDs.pers pr rs⟩
      | own bx =>
        obtain ⟨a, o, ea, hq, rs⟩ := r
        refine ⟨a, o, ea, k2 a o hq fun ⟨k, hk⟩ => ?_, rs.pers pr⟩
        have := own_wipe hk
        exact this.1 (S.one i k a ⟨⟨_, e, rfl⟩, by rw [e1, ea]⟩ this.2 ▸ hi)
    · rw [lk_rest_out hi] at e
      obtain ⟨v, e1, r⟩ := m.sim.rep i vl e
      rw [wipe_out hi] at e1
      exact ⟨v, e1, r⟩
  · by_cases hi : i ∈ vs
    · by_cases hj : j ∈ vs
      · exact S.one i j a (inn i a hi h1) (inn j a hj h2)
      · exact (mix i j a hi hj h1 h2).elim
    · by_cases hj : j ∈ vs
      · exact (mix j i a hj hi h2 h1).elim
      · exact m.sim.one i j a (out i a hi h1) (out j a hj h2)
  · by_cases hi : i ∈ vs
    · exact ⟨vl, by rw [lk_rest_in hl hi]; exact e⟩
    · obtain ⟨vl', e'⟩ := m.dom i vl (by rw [lk_wipe_out hi]; exact e)
      exact ⟨vl', by rw [lk_rest_out hi]; exact e'⟩
  · obtain ⟨o, e, _⟩ := S.ow (sub C h)
    rw [hD] at e; cases e
/-- a turn -/
theorem LMid.turn {C : Addr} {n : Nat} {ρs : Env} {σ0 : L2.St} (m : LMid K C (wipeE ρs vs) (L2.wipe σ0 vs) H0 ρ1 H1) (g : GMid K (outs n vs) ρ1 (L2.wipe σ0 vs) H1 ρ2 σ2 H2) (hw : L2.wipe σ2 vs = L2.wipe σ0 vs) :
    LMid K C (wipeE ρs vs) (L2.wipe σ0 vs) H0 (wipeE ρ2 vs) H2 := by
  refine ⟨by rw [← hw]; exact g.s.sim.wipe, m.keep.trans g.s.keep fun c h => .inl (.inl (m.sub c h)), fun a h => m.grow a (g.s.grow a h), fun a h => ?_, fun i vl e => ?_⟩
  · rw [← hw] at h
    exact m.sub a (g.own a (ow_wipe h))
  · have hi : i ∉ vs := fun hi => by rw [lk_wipe_in hi] at e; cases e
    obtain ⟨vl', e'⟩ := m.dom i vl e
    obtain ⟨vl2, e2⟩ := g.dom i vl' e'
    exact ⟨vl2, by rw [lk_wipe_out hi]; exact e2⟩
/-- the new list is longer -/
theorem LMid.app {C : Addr} {σ0 : L2.St} {a : List V} {u : HO} (hn : ¬ Ow ρ0 σ0 C) (m : LMid K C ρ0 σ0 H0 ρ1 H1) (hC : H1 C = some (.lst a)) : LMid K C ρ0 σ0 H0 ρ1 (upd H1 C u) := by
  have nb : ∀ c, Ow ρ1 σ0 c → c ≠ C := fun c h e => hn (by rw [← e]; exact m.sub c h)
  refine ⟨m.sim.heap (pers_mut hC trivial) fun c o h e => by rw [upd_ne (nb c h)]; exact e, fun b o e z => ?_, fun b e => m.grow b (grow_upd b e), m.sub, m.dom⟩
  rw [upd_ne fun e' => z (.inr e')]
  exact m.keep b o e z
end
section
variable {X : Cx} {W : WX} {elt tg iter : Expr} {ifs : List Expr} {scope : Scope} {own : List (Str × Nat)} {pos : Pos} {it : MI} {g : MT} {tt te : M} {n : Nat}
theorem tOf_lc {K : PySem.W.Frag} {mg : Str → Option Value} {vs : List Nat} {σ : L2.St} {H : Hp} {Q : VK} (h : tOf K mg W (mLc n it g tt te vs) σ H Q) :
    tLc (tI K mg W it) (tG K mg W0 (outs n vs) g) (tT K mg W0 tt) (tOf K mg W0 (mD te)) vs σ H Q := by
  obtain ⟨ρ, S, q⟩ := h
  unfold mLc at q
  refine ⟨ρ, S, ?_⟩
  cases e1 : it ρ with
  | stuck => rw [e1] at q; exact q.elim
  | exc x => rw [e1] at q; exact q
  | ok p =>
    obtain ⟨xs, ρ1⟩ := p
    rw [e1] at q
    simp only [Ot.bind] at q
    intro J H1 m1 Y C hC
    split at q
    case isFalse => exact q.elim
    rename_i hn
    cases e2 : (lcGo n g tt te vs xs (wipeE ρ1 vs) []).nx with
    | stuck => rw [e2] at q; exact q.elim
    | exc x => 
      exfalso
      revert e2
      unfold Ot.nx
      split <;> intro e <;> cases e
    | ok p =>
      obtain ⟨accF, ρF⟩ := p
      rw [e2] at q
      have e3 := nx_ok e2
      have hnC : ¬ Ow (wipeE ρ1 vs) (L2.wipe σ vs) C := fun z => by
        obtain ⟨o, e, _⟩ := m1.sim.ow (ow_wipe z)
        rw [hC] at e; cases e
      have S0 : Sim K (wipeE ρ1 vs) (L2.wipe σ vs) (upd H1 C (.lst [])) := (m1.sim.updN hC).wipe
      refine ⟨fun i m H' => m = xs.length - i ∧ i ≤ xs.length ∧ ∃ ρ' acc accV, LMid K C (wipeE ρ1 vs) (L2.wipe σ vs) (upd H1 C (.lst [])) ρ' H' ∧ ρ'.length = n ∧ H' C = some (.lst accV) ∧ RepDs K H' accV acc ∧ lcGo n g tt te vs (xs.drop i) ρ' acc = .ok (accF, ρF),
        ⟨xs.length, rfl, Nat.zero_le _, wipeE ρ1 vs, [], [], ⟨S0, Keep.refl, fun _ h => h, fun _ h => h, fun _ vl h => ⟨vl, h⟩⟩, by rw [wipeE_len]; exact hn, upd_same, .nil, e3⟩, ?_⟩
      rintro i m H' ⟨rfl, hi', ρ', acc, accV, M', hn', hC', rs', go'⟩
      have P' : Pers H1 H' := by
        obtain ⟨mf, _⟩ := M'.fin m1.sim hC
        exact mf.pers m1.sim
      by_cases hlt : i < xs.length
      · have hx : xs[i]? = some xs[i] := List.getElem?_eq_getElem hlt
        obtain ⟨goJ, y⟩ := (Y i H' P').2 _ hx
        have ed : xs.drop i = xs[i] :: xs.drop (i + 1) := List.drop_eq_getElem_cons hlt
        rw [ed] at go'
        dsimp only [lcGo] at go'
        refine .inr ⟨goJ, fun H2 => i + 1 ≤ xs.length ∧ ∃ ρ' acc accV, LMid K C (wipeE ρ1 vs) (L2.wipe σ vs) (upd H1 C (.lst [])) ρ' H2 ∧ ρ'.length = n ∧ H2 C = some (.lst accV) ∧ RepDs K H2 accV acc ∧ lcGo n g tt te vs (xs.drop (i + 1)) ρ' acc = .ok (accF, ρF),
          fun H2 h2 => ⟨xs.length - (i + 1), by omega, rfl, h2⟩, fun x H3 yx => ?_⟩
        obtain ⟨rx, k3, g3⟩ := y x H3 yx
        have m3 := Mid.keepAll M'.sim k3 g3
        refine ⟨ρ', xs[i], m3.sim, rx, ?_⟩
        cases e4 : g xs[i] ρ' with
        | stuck => rw [e4] at go'; cases go'
        | exc z => rw [e4] at go'; cases go'
        | ok ρ4 =>
          rw [e4] at go'
          simp only [Ot.nx, Ot.bind] at go'
          split at go'
          case isFalse => cases go'
          rename_i hn4
          intro σ4 H4 m4
          have m34 := m3.g.trans m4
          have hw : L2.wipe σ4 vs = L2.wipe σ vs := SMid.block M'.sim hn' m34.s hn4
          refine ⟨hw, ρ4, m4.s.sim, ?_⟩
          cases e5 : tt ρ4 with
          | stuck => rw [e5] at go'; cases go'
          | exc z => rw [e5] at go'; cases go'
          | ok p =>
            obtain ⟨r, ρ5⟩ := p
            rw [e5] at go'
            simp only at go'
            cases e6 : bo r with
            | none => rw [e6] at go'; cases go'
            | some b =>
              rw [e6] at go'
              have er := bo_some e6
              subst er
              intro H5 m5
              have m35 := m34.trans m5.g
              cases b with
              | false =>
                rw [if_neg Bool.false_ne_true]
                have hC5 : H5 C = some (.lst accV) := m35.s.keep C _ hC' fun z => hnC (M'.sub C z)
                exact ⟨hlt, wipeE ρ5 vs, acc, accV, M'.turn m35 hw, by rw [wipeE_len, ← m5.sim.len, m4.s.sim.len]; exact hn4, hC5, rs'.pers (m35.s.pers M'.sim), go'⟩
              | true =>
                rw [if_pos rfl]
                simp only at go'
                refine ⟨ρ5, m5.sim, ?_⟩
                cases e7 : mD te ρ5 with
                | stuck => rw [e7] at go'; cases go'
                | exc z => rw [e7] at go'; cases go'
                | ok p =>
                  obtain ⟨r, ρ6⟩ := p
                  rw [e7] at go'
                  intro v H6 p6
                  simp only [Ot.bind] at go'
                  cases r <;> try (cases go'; done)
                  rename_i dy
                  simp only at go'
                  split at go'
                  case isFalse => cases go'
                  rename_i hz
                  have m36 := m35.trans p6.mid.g
                  have hC6 : H6 C = some (.lst accV) := m36.s.keep C _ hC' fun z => hnC (M'.sub C z)
                  have T := M'.turn m36 hw
                  have rs6 := rs'.pers (m36.s.pers M'.sim)
                  refine ⟨accV, hC6, by rw [rs'.length]; exact hz, hlt, wipeE ρ6 vs, acc ++ [dy], accV ++ [v], T.app hnC hC6, by rw [wipeE_len, ← p6.sim.len, m4.s.sim.len]; exact hn4, upd_same, ?_, go'⟩
                  have pr : Pers H6 (upd H6 C (.lst (accV ++ [v]))) := pers_mut hC6 trivial
                  exact (rs6.pers pr).append (.cons (RepD.pers pr p6.at_) .nil)
      · have ei : i = xs.length := by omega
        subst ei
        rw [List.drop_length] at go'
        cases go'
        refine .inl ⟨(Y _ H' P').1 (Nat.le_refl _), ?_⟩
        obtain ⟨mf, nf⟩ := M'.fin m1.sim hC
        exact q _ _ ((m1.trans mf).post ⟨C, .lst accV, rfl, hC', rs', nf⟩ fun a e => by cases e; exact m1.grow _ hC)
/-- a comprehension -/
theorem pe_mLc (hc : X.calm = true) (hN : X.N.Nodup) (hi : PI X tg iter (tI X.K X.mg W it)) (ok : BlkOk X.N X.env.scope scope own)
    (hg : ∀ (s : Shared) (H : Hp) (C : Addr) (cl : List (Str × Addr)) (fp : List Addr), PG (X.blk s H scope (compEnvC scope cl C X.env) fp) tg (tG X.K X.mg W0 (outs n (own.map (·.2))) g))
    (ht : ∀ (s : Shared) (H : Hp) (C : Addr) (cl : List (Str × Addr)) (fp : List Addr), PTs (X.blk s H scope (compEnvC scope cl C X.env) fp) ifs (tT X.K X.mg W0 tt))
    (he : ∀ (s : Shared) (H : Hp) (C : Addr) (cl : List (Str × Addr)) (fp : List Addr), PE (X.blk s H scope (compEnvC scope cl C X.env) fp) elt (tOf X.K X.mg W0 te)) (hs : ∀ x, foldedSetIterable iter X.env x = pure x) :
    PE X (.ListComp elt [⟨tg, iter, ifs, 0⟩] scope pos) (tOf X.K X.mg W (mLc n it g tt te (own.map (·.2)))) :=
  PE.weak (pe_lc hc hN hi ok hg ht (fun s H C cl fp => pe_mD (X := X.blk s H scope (compEnvC scope cl C X.env) fp) (he s H C cl fp)) hs) fun _ _ _ => tOf_lc
theorem pts_mnil : PTs X [] (tT X.K X.mg W mYes) := ⟨fun pins s σ H Q I ⟨ρ, S, q⟩ => pts_nil.run pins s σ H Q I (q H (Mid.refl S))⟩
end
end Mp
set_option maxHeartbeats 4000000
/-! Mp14: set(..) of a list of ints. -/
namespace Mp
open PySem PySem.Spec PyProof.Rows L2
section
variable {P : Program} {w : World} {A : Around} {E : Value → Shared → Prop} {s : Shared}
/-- an empty set's object -/
abbrev newSet (w : World) : Obj := { cls := .type "set", dict := none, data := .set #[] 0 (.fresh 0 0 (!w.params.followText "set-order")) }
theorem set_of_list {l : Addr} {its : Array Value} (ns : List Int) {Q : Value → Shared → Prop} (hh : A.handled = none) (hl : s.heap.IsList l its) (hit : IntsAre its.toList ns) (hb : ns.length + 1 < scanBound)
    (h : ∀ (h' : Heap) (tk c : Nat), SetR w h' s.heap.objs.size (fun j => decide (j ∈ ns)) c → c ≤ ns.length → (∀ b o, s.heap.get? b = some o → h'.get? b = some o) → Q (.ref s.heap.objs.size) { s with heap := h', toks := tk }) :
    wpAny (model P w) A (call (.type "set") [.ref l]) Q E s := by
  have hsz : its.size = ns.length := by have q := IntsAre.length hit; rw [Array.length_toList] at q; exact q
  obtain ⟨cc, tl, hmro⟩ := F.called_set.mro; have hmade := F.called_set.made; have hsub := F.called_set.sub
  refine wpAny_call (codeAny_of_tree ?_); show wpAny _ _ (callAny (.type "set") _) _ _ _
  refine wpAny_pure ⟨Code.quiet_builtin _ (by decide +kernel), codeAny_builtin F.entry_type_call ?_⟩; rw [Around.under_plain (weight_type_call_type "set" [.ref l] []) rfl]
  have h1 := F.called_set.notType; have h2 := F.called_set.canCreate; have hct := F.typeCall_set_1 (.ref l)
  repeat (any_goals (first | assumption | wp_step))
  refine codeAny_mono (code_set_led1 (.ref l) (E := E) (Q₁ := fun obj s₁ => obj = .ref s.heap.objs.size ∧ s₁ = { s with heap := s.heap.push (newSet w) }) ⟨rfl, rfl⟩) fun r s₁ hr => ?_
  cases r with
  | error e => exact hr
  | ok fl =>
    cases fl with
    | ret obj =>
      obtain ⟨rfl, rfl⟩ := hr
      have hS : (s.heap.push (newSet w)).get? s.heap.objs.size = some (newSet w) := Heap.get?_push_size _ rfl
      have hT : Shared.TypeIs { s with heap := s.heap.push (newSet w) } (.ref s.heap.objs.size) "set" := ⟨_, hS, rfl⟩
      have hli := F.called_set.init.lookup; have hbi := F.called_set.init.bind (.ref s.heap.objs.size)
      repeat (any_goals (first | assumption | wp_step))
      refine codeAny_mono (codeAny_call_builtin (R := wants (fun r s₂ => r = .none ∧ ∃ h' tk c, s₂ = { s with heap := h', toks := tk } ∧ SetR w h' s.heap.objs.size (fun j => decide (j ∈ ns)) c ∧ c ≤ ns.length ∧ ∀ b o, s.heap.get? b = some o → h'.get? b = some o) E)
        F.called_set.init.plain F.entry_set_init (check_set_init_1 hT ?_)) fun r₂ s₂ hr₂ => ?_
      · obtain ⟨ol, hol, hcl, nl, hdl⟩ := hl; obtain ⟨oc, od, odt, osl⟩ := ol
        simp only at hcl hdl; subst hcl; subst hdl
        have hol' : (s.heap.push (newSet w)).get? l = some { cls := .type "list", dict := od, data := .seq its nl, slots := osl } := Heap.get?_push_of_some _ hol
        have hs1 := F.sub_list_set; have hs2 := F.sub_list_frozenset; have hne : (Value.type "list" == Value.type "dict") = false := by decide
        have hl1 : (s.heap.push (newSet w)).IsList l its := ⟨_, hol', rfl, nl, rfl⟩
        unfold Builtin.«set.__init__» noKeywords Builtin.Frozenset.updateFrom; generalize hPI : pyIter = PI
        wp_walk; subst hPI
        refine wpAny_pyIter_list hl1 ?_; refine wpAny_bind (wpAny_runValue ?_)
        have hlS : l < s.heap.objs.size := Heap.lt_size hol; have hh3 : A.in1.in1.in1.handled = none := by simp [hh]
        have hsp : (s.heap.push (newSet w)).objs.size = s.heap.objs.size + 1 := Heap.size_push ..
        have hnI : l ≠ (s.heap.push (newSet w)).objs.size := by rw [hsp]; exact Nat.ne_of_lt (Nat.lt_succ_of_lt hlS)
        have hSf : s.heap.objs.size ∉ [(s.heap.push (newSet w)).objs.size, l] := by
          rw [hsp]; intro z; rcases List.mem_cons.mp z with z | z
          · exact absurd z (Nat.ne_of_lt (Nat.lt_succ_self _))
          · rcases List.mem_cons.mp z with z | z
            · exact absurd z (Nat.ne_of_gt hlS)
            · cases z
        have hval : ∀ (i : Nat) (v : Value), its[i]? = some v → ∃ k t, ns[i]? = some k ∧ v = .int k t := fun i v hv => by
          have hi : i < ns.length := by rw [← hsz]; exact (Array.getElem?_eq_some_iff.mp hv).1
          obtain ⟨t, e⟩ := PyProof.Rows.IntsAre.int_at hit i v (by rw [Array.getElem?_toList]; exact hv); refine ⟨ns[i], t, List.getElem?_eq_getElem hi, ?_⟩
          rw [e, List.getD_eq_getElem?_getD, List.getElem?_eq_getElem hi] <;> rfl
        refine set_update_ints ((Walks.list hh3 _ l hnI its).toS) s.heap.objs.size hSf ns hsz hb hval (its.size - 0) 0 _ (by omega) (Nat.zero_le _) ⟨⟨_, Heap.get?_push_size _ rfl, rfl, rfl⟩, (hl1.push _)⟩ ?hS0 ?hR
        case hS0 =>
          have hg : ((s.heap.push (newSet w)).push { cls := .type "list_iterator", data := .fields #[.ref l, .int 0 0] }).get? s.heap.objs.size = some (newSet w) := Heap.get?_push_of_some _ hS
          exact ⟨0, Nat.le_refl 0, setR_new_at hg⟩
        case hR =>
          intro s' c' hm hc' hS'
          obtain ⟨h', g2, d', tk', os'⟩ := s'
          have eg : g2 = s.gens := hm.gens; have ed : d' = s.drawn := hm.drawn; have eo : os' = s.os := hm.os; subst eg; subst ed; subst eo
          show wpAny _ _ _ _ _ _
          refine wpAny_pure ?_; show wpAny _ _ (ret Value.none) _ _ _
          rw [hsz] at hc'
          refine wpAny_pure ⟨rfl, h', tk', c', rfl, hS', hc', fun b o e => ?_⟩
          have hb0 : b < s.heap.objs.size := Heap.lt_size e
          refine hm.heap b o (fun z => ?_) (Heap.get?_push_of_some _ (Heap.get?_push_of_some _ e))
          rcases List.mem_cons.mp z with z | z
          · exact absurd z (Nat.ne_of_lt hb0)
          · rcases List.mem_cons.mp z with z | z
            · rw [hsp] at z; exact absurd z (Nat.ne_of_lt (Nat.lt_succ_of_lt hb0))
            · cases z
      · cases r₂ with
        | error e => exact hr₂
        | ok fl₂ =>
          cases fl₂ with
          | ret r =>
            obtain ⟨rfl, h', tk, c, rfl, hS', hc', hk'⟩ := hr₂
            repeat (any_goals (first | assumption | wp_step))
            exact h _ _ _ hS' hc' hk'
          | _ => exact hr₂.elim
    | _ => exact hr.elim
end
end Mp
set_option maxHeartbeats 4000000
/-! Mp30: set(..) of a list of tuples of ints of which few are distinct. -/
namespace Mp
open PySem PySem.Spec PyProof.Rows L2
section
variable {P : Program} {w : World} {A : Around} {E : Value → Shared → Prop} {s : Shared}
abbrev TL := List (Addr × List Int)
/-- no set of its tuples reaches 63 -/
def FewD (ks : TL) : Prop := ∀ L : TL, (L.map Prod.snd).Nodup → (∀ q ∈ L, q ∈ ks) → L.length < 63
theorem upd_tups {I : Addr} {fp wr : List Addr} {G : Array GenState → Array GenState → Prop} {Pv : Nat → Value → Prop} {St : Nat → Shared → Prop} {R : Result → Shared → Prop} (ks : TL)
    (W : WalksS P w A.in1 I fp wr G ks.length Pv St) (S : Addr) (nS : S ∉ fp) (few : FewD ks) (val : ∀ i v, Pv i v → ∃ q, ks[i]? = some q ∧ v = .ref q.1)
    (g0 : Heap) (inT : ∀ q ∈ ks, IsT P w g0 q.2 q.1) (g0S : g0.get? S = none) (g0w : ∀ b ∈ wr, g0.get? b = none) (hu : A.in1.units < cLine) (j : Nat) :
    ∀ (i : Nat) (s : Shared), i + j = ks.length → St i s → (∀ b o, g0.get? b = some o → s.heap.get? b = some o) → (∃ L es ep t, SetTR P w s.heap S L es ep t ∧ Got ks i L) →
      (∀ s' L es ep t, Moved (S :: wr) G s s' → SetTR P w s'.heap S L es ep t → Got ks ks.length L → (∀ b o, g0.get? b = some o → s'.heap.get? b = some o) → R (.ok (.ret .none)) s') →
      codeAny (model P w) A (.builtin "set.update.loop" ⟨[.ref S, .ref I], []⟩) R s := by
  have nSw : S ∉ wr := fun z => nS (W.sub _ z)
  have wS : ∀ b ∈ wr, b ∈ S :: wr := fun b => List.mem_cons_of_mem _
  induction j with
  | zero =>
    rintro i s hij st old ⟨L, es, ep, t, hS, got⟩ fin
    have e : i = ks.length := by omega
    subst e
    refine codeAny_builtin F.entry_set_update_loop ?_; rw [Around.under_plainId F.plain_set_update_loop _]
    show wpAny _ A.in1 (pyNext (.ref I) >>= _) _ _ s; refine wpAny_bind (W.done s _ _ st fun s' mv => ?_)
    show wpAny _ A.in1 (ret Value.none) _ _ s'
    have old' : ∀ b o, g0.get? b = some o → s'.heap.get? b = some o := fun b o e => mv.heap b o (fun z => by rw [g0w b z] at e; cases e) (old b o e)
    exact wpAny_pure (fin s' L es ep t (mv.mono wS) (hS.keep (fun o e => mv.heap S o nSw e) fun q hq => isT_keep (inT q (List.mem_of_mem_take (got.sub q hq))) old') got old')
  | succ j ih =>
    rintro i s hij st old ⟨L, es, ep, t, hS, got⟩ fin
    refine codeAny_builtin F.entry_set_update_loop ?_; rw [Around.under_plainId F.plain_set_update_loop _]
    show wpAny _ A.in1 (pyNext (.ref I) >>= _) _ _ s; refine wpAny_bind (W.item i s _ _ (by omega) st fun v s' pv st' mv => ?_)
    obtain ⟨q, hq, rfl⟩ := val i v pv
    have old' : ∀ b o, g0.get? b = some o → s'.heap.get? b = some o := fun b o e => mv.heap b o (fun z => by rw [g0w b z] at e; cases e) (old b o e)
    have inL : ∀ r ∈ L, r ∈ ks := fun r hr => List.mem_of_mem_take (got.sub r hr)
    have hS' : SetTR P w s'.heap S L es ep t := hS.keep (fun o e => mv.heap S o nSw e) fun r hr => isT_keep (inT r (inL r hr)) old'
    have tq : IsT P w s'.heap q.2 q.1 := isT_keep (inT q (List.mem_of_getElem? hq)) old'
    show wpAny _ A.in1 (holding [Value.ref q.1] (setAdd S (.ref q.1)) >>= _) _ _ s'
    refine wpAny_bind (wpAny_holding ?_); unfold setAdd; refine wpAny_holding (wpAny_bind (wpAny_pyHash_tuple hu tq ?_))
    have room : L.length + 1 < 64 := by have := few L hS.nd inL; omega
    refine add_at (s := { s' with toks := s'.toks + (q.2.length + 1) }) hS' tq hu room fun b h' L' es' ep' t' same hS2 c1 c2 => ?_
    have got' : Got ks (i + 1) L' := by
      by_cases c : q.2 ∈ L.map Prod.snd
      · rw [c1 c]; exact got.same hq c
      · exact got.more hq (c2 c)
    have old2 : ∀ b o, g0.get? b = some o → h'.get? b = some o := fun b o e => (same.2 b (fun z => by rw [z, g0S] at e; cases e)).trans (old' b o e)
    refine wpAny_pure ⟨plainId_quiet F.plain_set_update_loop _, ih (i + 1) _ (by omega) (W.frame _ s' _ _ st' (Nat.le_add_right _ _) fun b hb o e => (same.2 b (fun z => nS (z ▸ hb))).trans e) old2 ⟨L', es', ep', t', hS2, got'⟩ fun s2 L2' es2 ep2 t2 mv2 hS3 got3 old3 => ?_⟩
    refine fin s2 L2' es2 ep2 t2 (Moved.trans W.gtrans ((mv.mono wS).then_heap (Nat.le_add_right _ _) fun b o hb e => ?_) mv2) hS3 got3 old3
    exact (same.2 b (fun z => hb (z ▸ List.mem_cons_self))).trans e
theorem set_of_tups {l : Addr} {its : Array Value} (ks : TL) {Q : Value → Shared → Prop} (hh : A.handled = none) (hl : s.heap.IsList l its) (hit : its.toList = ks.map fun q => Value.ref q.1) (inT : ∀ q ∈ ks, IsT P w s.heap q.2 q.1) (few : FewD ks) (hu : A.units + 3 < cLine)
    (h : ∀ (h' : Heap) (tk : Nat) L es ep t, SetTR P w h' s.heap.objs.size L es ep t → Got ks ks.length L → (∀ b o, s.heap.get? b = some o → h'.get? b = some o) → Q (.ref s.heap.objs.size) { s with heap := h', toks := tk }) :
    wpAny (model P w) A (call (.type "set") [.ref l]) Q E s := by
  have hsz : its.size = ks.length := by have q := congrArg List.length hit; rw [Array.length_toList, List.length_map] at q; exact q
  obtain ⟨cc, tl, hmro⟩ := F.called_set.mro; have hmade := F.called_set.made; have hsub := F.called_set.sub
  refine wpAny_call (codeAny_of_tree ?_); show wpAny _ _ (callAny (.type "set") _) _ _ _
  refine wpAny_pure ⟨Code.quiet_builtin _ (by decide +kernel), codeAny_builtin F.entry_type_call ?_⟩; rw [Around.under_plain (weight_type_call_type "set" [.ref l] []) rfl]
  have h1 := F.called_set.notType; have h2 := F.called_set.canCreate; have hct := F.typeCall_set_1 (.ref l)
  repeat (any_goals (first | assumption | wp_step))
  refine codeAny_mono (code_set_led1 (.ref l) (E := E) (Q₁ := fun obj s₁ => obj = .ref s.heap.objs.size ∧ s₁ = { s with heap := s.heap.push (newSet w) }) ⟨rfl, rfl⟩) fun r s₁ hr => ?_
  cases r with
  | error e => exact hr
  | ok fl =>
    cases fl with
    | ret obj =>
      obtain ⟨rfl, rfl⟩ := hr
      have hS : (s.heap.push (newSet w)).get? s.heap.objs.size = some (newSet w) := Heap.get?_push_size _ rfl
      have hT : Shared.TypeIs { s with heap := s.heap.push (newSet w) } (.ref s.heap.objs.size) "set" := ⟨_, hS, rfl⟩
      have hli := F.called_set.init.lookup; have hbi := F.called_set.init.bind (.ref s.heap.objs.size)
      repeat (any_goals (first | assumption | wp_step))
      refine codeAny_mono (codeAny_call_builtin (R := wants (fun r s₂ => r = .none ∧ ∃ h' tk L es ep t, s₂ = { s with heap := h', toks := tk } ∧ SetTR P w h' s.heap.objs.size L es ep t ∧ Got ks ks.length L ∧ ∀ b o, s.heap.get? b = some o → h'.get? b = some o) E)
        F.called_set.init.plain F.entry_set_init (check_set_init_1 hT ?_)) fun r₂ s₂ hr₂ => ?_
      · obtain ⟨ol, hol, hcl, nl, hdl⟩ := hl; obtain ⟨oc, od, odt, osl⟩ := ol
        simp only at hcl hdl; subst hcl; subst hdl
        have hol' : (s.heap.push (newSet w)).get? l = some { cls := .type "list", dict := od, data := .seq its nl, slots := osl } := Heap.get?_push_of_some _ hol
        have hs1 := F.sub_list_set; have hs2 := F.sub_list_frozenset; have hne : (Value.type "list" == Value.type "dict") = false := by decide
        have hl1 : (s.heap.push (newSet w)).IsList l its := ⟨_, hol', rfl, nl, rfl⟩
        unfold Builtin.«set.__init__» noKeywords Builtin.Frozenset.updateFrom; generalize hPI : pyIter = PI
        wp_walk; subst hPI
        refine wpAny_pyIter_list hl1 ?_; refine wpAny_bind (wpAny_runValue ?_)
        have hlS : l < s.heap.objs.size := Heap.lt_size hol; have hh3 : A.in1.in1.in1.handled = none := by simp [hh]
        have hsp : (s.heap.push (newSet w)).objs.size = s.heap.objs.size + 1 := Heap.size_push ..
        have hnI : l ≠ (s.heap.push (newSet w)).objs.size := by rw [hsp]; exact Nat.ne_of_lt (Nat.lt_succ_of_lt hlS)
        have nS : s.heap.objs.size ∉ [(s.heap.push (newSet w)).objs.size, l] := by
          rw [hsp]; intro z; rcases List.mem_cons.mp z with z | z
          · exact absurd z (Nat.ne_of_lt (Nat.lt_succ_self _))
          · rcases List.mem_cons.mp z with z | z
            · exact absurd z (Nat.ne_of_gt hlS)
            · cases z
        have none_of : ∀ b, s.heap.objs.size ≤ b → s.heap.get? b = none := fun b hb => by
          cases q : s.heap.get? b with
          | none => rfl
          | some o => exact absurd (Nat.lt_of_lt_of_le (Heap.lt_size q) hb) (Nat.lt_irrefl _)
        have val : ∀ (i : Nat) (v : Value), its[i]? = some v → ∃ q, ks[i]? = some q ∧ v = .ref q.1 := fun i v hv => by
          have q : its.toList[i]? = some v := by rw [Array.getElem?_toList]; exact hv
          rw [hit, List.getElem?_map] at q; obtain ⟨p, hp, e⟩ := Option.map_eq_some_iff.mp q
          exact ⟨p, hp, e.symm⟩
        have WW := (Walks.list (prog := P) (w := w) hh3 _ l hnI its).toS; rw [hsz] at WW
        refine upd_tups ks WW s.heap.objs.size nS few val s.heap inT (none_of _ (Nat.le_refl _)) (fun b hb => none_of b ?_) hu ks.length 0 _ (by omega) ⟨⟨_, Heap.get?_push_size _ rfl, rfl, rfl⟩, (hl1.push _)⟩ (fun b o e => Heap.get?_push_of_some _ (Heap.get?_push_of_some _ e)) ?hS0 ?hR
        · rw [List.mem_singleton.mp hb, hsp]; exact Nat.le_succ _
        case hS0 =>
          have hg : ((s.heap.push (newSet w)).push { cls := .type "list_iterator", data := .fields #[.ref l, .int 0 0] }).get? s.heap.objs.size = some (newSet w) := Heap.get?_push_of_some _ hS
          exact ⟨[], #[], 0, _, setTR_fresh hg, Got.zero ks⟩
        case hR =>
          intro s' L es ep t hm hS' got old
          obtain ⟨h', g2, d', tk', os'⟩ := s'
          have eg : g2 = s.gens := hm.gens; have ed : d' = s.drawn := hm.drawn; have eo : os' = s.os := hm.os; subst eg; subst ed; subst eo
          show wpAny _ _ _ _ _ _
          refine wpAny_pure ?_; show wpAny _ _ (ret Value.none) _ _ _
          exact wpAny_pure ⟨rfl, h', tk', L, es, ep, t, rfl, hS', got, old⟩
      · cases r₂ with
        | error e => exact hr₂
        | ok fl₂ =>
          cases fl₂ with
          | ret r =>
            obtain ⟨rfl, h', tk, L, es, ep, t, rfl, hS', got, old⟩ := hr₂
            repeat (any_goals (first | assumption | wp_step))
            exact h _ _ _ _ _ _ hS' got old
          | _ => exact hr₂.elim
    | _ => exact hr.elim
end
end Mp
set_option maxHeartbeats 1000000
/-! Mp15: sorted. -/
namespace Mp
open PySem PySem.Spec PyProof.Rows L2 PySem.W
def leD : D → D → Bool := dataLe false id
def insD (x : D) : List D → List D
  | [] => [x]
  | y :: ys => if leD x y then x :: y :: ys else y :: insD x ys
def isort : List D → List D
  | [] => []
  | x :: xs => insD x (isort xs)
theorem leD_total : TotalLe leD := by
  unfold leD dataLe
  exact sortLe_total _ _ _
theorem insD_mem {x : D} : ∀ {ys : List D} {z : D}, z ∈ insD x ys ↔ z = x ∨ z ∈ ys
  | [], z => by simp [insD]
  | y :: ys, z => by
    unfold insD
    split
    · simp
    · rw [List.mem_cons, insD_mem, List.mem_cons]
      constructor
      · rintro (h | h | h)
        · exact .inr (.inl h)
        · exact .inl h
        · exact .inr (.inr h)
      · rintro (h | h | h)
        · exact .inr (.inl h)
        · exact .inl h
        · exact .inr (.inr h)
theorem insD_sorted {x : D} : ∀ {ys : List D}, ys.Pairwise (fun a b => leD a b = true) → (insD x ys).Pairwise (fun a b => leD a b = true)
  | [], _ => List.pairwise_singleton _ _
  | y :: ys, h => by
    obtain ⟨h1, h2⟩ := List.pairwise_cons.mp h
    unfold insD
    split
    · rename_i hl
      refine List.pairwise_cons.mpr ⟨fun z hz => ?_, h⟩
      rcases List.mem_cons.mp hz with e | hz
      · rw [e]; exact hl
      · exact leD_total.trans _ _ _ hl (h1 z hz)
    · rename_i hl
      refine List.pairwise_cons.mpr ⟨fun z hz => ?_, insD_sorted h2⟩
      rcases insD_mem.mp hz with e | hz
      · rw [e]; exact (leD_total.total x y).elim (fun z => absurd z hl) id
      · exact h1 z hz
theorem insD_filter {x c : D} : ∀ {ys : List D}, (insD x ys).filter (sameRank leD c) = if sameRank leD c x then x :: ys.filter (sameRank leD c) else ys.filter (sameRank leD c)
  | [] => by
    unfold insD
    rw [List.filter_cons]
  | y :: ys => by
    unfold insD
    split
    · rw [List.filter_cons]
    · rename_i hl
      rw [List.filter_cons, insD_filter (ys := ys), List.filter_cons]
      by_cases hx : sameRank leD c x = true
      · have hy : sameRank leD c y = false := by
          cases e : sameRank leD c y with
          | false => rfl
          | true =>
            exfalso
            unfold sameRank at hx e
            simp only [Bool.and_eq_true] at hx e
            first
              | exact hl (leD_total.trans _ _ _ hx.1 e.2)
              | exact hl (leD_total.trans _ _ _ hx.2 e.1)
        rw [hx, hy]
        simp
      · simp [hx]
theorem isort_sorted : ∀ xs : List D, (isort xs).Pairwise (fun a b => leD a b = true)
  | [] => .nil
  | x :: xs => insD_sorted (isort_sorted xs)
theorem isort_filter (c : D) : ∀ xs : List D, (isort xs).filter (sameRank leD c) = xs.filter (sameRank leD c)
  | [] => rfl
  | x :: xs => by
    show (insD x (isort xs)).filter _ = _
    rw [insD_filter, isort_filter c xs, List.filter_cons]
theorem isort_eq (xs : List D) : isort xs = xs.mergeSort leD := sort_unique leD_total (isort_sorted xs) fun c => isort_filter c xs
theorem isort_mem {xs : List D} {z : D} : z ∈ isort xs ↔ z ∈ xs := by
  rw [isort_eq]
  exact (List.mergeSort_perm _ _).mem_iff
/-- what can be sorted -/
def tupNE : D → Bool
  | .tuple (_ :: _) => true
  | _ => false
def plainK : D → Bool
  | .none => false
  | .tuple _ => false
  | _ => true
def srtOk (ds : List D) : Bool := (ds.all fun d => ds.all fun e => alike d e) && (ds.all tupNE || ds.all plainK) && (ds.all fun d => decide (d.depth < 200))
theorem srt_alike {ds : List D} (h : srtOk ds = true) : AllAlike ds := by
  unfold srtOk at h
  simp only [Bool.and_eq_true] at h
  intro d hd e he
  exact List.all_eq_true.mp (List.all_eq_true.mp h.1.1 d hd) e he
theorem srt_kind {ds : List D} (h : srtOk ds = true) : Sortable ds := by
  unfold srtOk at h
  simp only [Bool.and_eq_true, Bool.or_eq_true] at h
  rcases h.1.2 with h | h
  · refine .inl fun d hd => ?_
    have := List.all_eq_true.mp h d hd
    cases d <;> try (cases this; done)
    rename_i xs
    cases xs with
    | nil => cases this
    | cons x r => exact ⟨x, r, rfl⟩
  · refine .inr fun d hd => ?_
    have := List.all_eq_true.mp h d hd
    cases d <;> first | (cases this; done) | exact ⟨(fun z => PyData.noConfusion z), (fun xs z => PyData.noConfusion z)⟩
theorem srt_depth {ds : List D} (h : srtOk ds = true) : ∀ d ∈ ds, d.depth < 200 := by
  unfold srtOk at h
  simp only [Bool.and_eq_true] at h
  intro d hd
  have := List.all_eq_true.mp h.2 d hd
  simpa using this
def gSorted : List D → Option Res
  | [.list ds] => if srtOk ds then some (.lst (isort ds)) else none
  | _ => none
section
variable {X : Cx}
theorem each_zip {K : PySem.W.Frag} {H : Hp} : ∀ {vs : List V} {its : List Value} {ds : List D}, Vals vs its → RepDs K H vs ds → EachIs (fun (u : Value) (b : V × D) => RelV b.1 u ∧ RepD K H b.1 b.2) its (vs.zip ds)
  | _, _, _, .nil, .nil => .nil
  | _, _, _, .cons r t, .cons q s => .cons ⟨r, q⟩ (each_zip t s)
theorem zip_snd {K : PySem.W.Frag} {H : Hp} : ∀ {vs : List V} {ds : List D}, RepDs K H vs ds → (vs.zip ds).map Prod.snd = ds
  | _, _, .nil => rfl
  | _, _, .cons q s => by rw [List.zip_cons_cons, List.map_cons, zip_snd s]
theorem each_out {K : PySem.W.Frag} {H : Hp} : ∀ {its : List Value} {bs : List (V × D)}, EachIs (fun (u : Value) (b : V × D) => RelV b.1 u ∧ RepD K H b.1 b.2) its bs → Vals (bs.map Prod.fst) its ∧ RepDs K H (bs.map Prod.fst) (bs.map Prod.snd)
  | _, _, .nil => ⟨.nil, .nil⟩
  | _, _, .cons r t => ⟨.cons r.1 (each_out t).1, .cons r.2 (each_out t).2⟩
theorem each_imp {R R' : Value → V × D → Prop} : ∀ {its : List Value} {bs : List (V × D)}, EachIs R its bs → (∀ u b, R u b → R' u b) → EachIs R' its bs
  | _, _, .nil, _ => .nil
  | _, _, .cons r t, f => .cons (f _ _ r) (each_imp t f)
theorem vals1' {x : V} {us : List Value} (r : Vals [x] us) : ∃ u, us = [u] ∧ RelV x u := by
  cases r with
  | cons r t => cases t; exact ⟨_, rfl, r⟩
theorem cg_sorted (rm : Rm X.A) : CallR X (.builtin "sorted") (rC X.K gSorted) := by
  intro pins s σ H xs us Q I r ⟨ds', res, rp, eg, q⟩
  unfold gSorted at eg
  split at eg
  case h_2 => cases eg
  rename_i ds
  split at eg
  case isFalse => cases eg
  rename_i hok
  cases eg
  cases rp with
  | cons px t =>
    cases t
    obtain ⟨u, rfl, rx⟩ := vals1' r
    obtain ⟨a, vs, rfl, hq, rs⟩ := px.sq
    cases rx
    obtain ⟨its, rv, pl, hz⟩ := I.list hq
    have E := each_zip rv rs
    have eb := zip_snd rs
    have hL : (vs.zip ds).length = vs.length := by rw [List.length_zip, rs.length, Nat.min_self]
    refine sorted_data (bs := vs.zip ds) (enc := Prod.snd) (R := fun u b => RelV b.1 u ∧ RepD X.K H b.1 b.2) (vs := its) pl.isList E (each_imp E fun u b h => RepD.reads I.hok I.kIn h.2 h.1) (by rw [eb]; exact srt_alike hok) (by rw [eb]; exact srt_kind hok) (by rw [hL]; exact hz) (fun b hb => ?_) fun out ho eo => ?_
    · have h1 : b.2 ∈ ds := by rw [← eb]; exact List.mem_map_of_mem hb
      have h2 := srt_depth hok _ h1
      have h3 := rm.un
      omega
    · obtain ⟨h1, h2⟩ := each_out eo
      have e2 : ((vs.zip ds).mergeSort (dataLe false Prod.snd)).map Prod.snd = isort ds := by
        rw [isort_eq, List.map_mergeSort (s := leD), eb]
        intro a _ b _
        rfl
      rw [e2] at h2
      obtain ⟨c, hc⟩ := sortedAll_at s.heap its out.toArray
      have hn : H (s.heap.objs.size + 1) = none := I.hok.fresh (Nat.le_succ _)
      refine ⟨.ref (s.heap.objs.size + 1), _, I.laid (t' := s.toks) (o := .lst (((vs.zip ds).mergeSort (dataLe false Prod.snd)).map Prod.fst)) (fun b u e => sortedAll_old e) (Nat.le_succ _) ⟨?_, out, c, h1, hc⟩, rfl, q _ _ hn h2⟩
      rw [List.length_map, (List.mergeSort_perm _ _).length_eq, hL]
      exact hz
end
end Mp
set_option maxHeartbeats 1000000
/-! Mp16: sorted(set(..)), len(set(..)). -/
namespace Mp
open PySem PySem.Spec PyProof.Rows L2 PySem.W
theorem leD_int (a b : Int) : leD (.int a) (.int b) = decide (a ≤ b) := by
  show (!dataLt (.int b) (.int a)) = _
  rw [dataLt_int, not_lt_int]
def tupI (ns : List Int) : D := .tuple (ns.map .int)
theorem leD_tup (a b : List Int) : leD (tupI a) (tupI b) = !decide (b < a) := by
  show (!dataLt (.tuple (b.map .int)) (.tuple (a.map .int))) = _
  rw [dataLt_tuple]
  show (!rowLt (b.map .int) (a.map .int)) = _
  rw [dataLt_ints]
theorem leD_refl (a : D) : leD a a = true := (leD_total.total a a).elim id id
theorem leD_of_not {a b : D} (h : leD b a = false) : leD a b = true := (leD_total.total a b).elim id fun z => by rw [h] at z; cases z
/-- of neighbours of one rank the last alone -/
def dd : List D → List D
  | [] => []
  | x :: r => match r with
    | [] => [x]
    | y :: _ => if leD y x then dd r else x :: dd r
theorem dd_cc (x y : D) (r : List D) : dd (x :: y :: r) = if leD y x = true then dd (y :: r) else x :: dd (y :: r) := rfl
theorem dd_sub : ∀ {xs : List D} {z : D}, z ∈ dd xs → z ∈ xs
  | [], _, h => by cases h
  | [x], z, h => h
  | x :: y :: r, z, h => by
    have ih := dd_sub (xs := y :: r) (z := z)
    rw [dd_cc] at h
    split at h
    · exact List.mem_cons_of_mem _ (ih h)
    · rcases List.mem_cons.mp h with e | h
      · rw [e]; exact List.mem_cons_self
      · exact List.mem_cons_of_mem _ (ih h)
theorem dd_strict : ∀ {xs : List D}, xs.Pairwise (fun a b => leD a b = true) → (dd xs).Pairwise fun a b => leD b a = false
  | [], _ => .nil
  | [x], _ => List.pairwise_singleton _ _
  | x :: y :: r, h => by
    obtain ⟨h1, h2⟩ := List.pairwise_cons.mp h
    have ih := dd_strict h2
    rw [dd_cc]
    split
    · exact ih
    · rename_i hn
      refine List.pairwise_cons.mpr ⟨fun z hz => ?_, ih⟩
      have hz' := dd_sub hz
      have yz : leD y z = true := by
        rcases List.mem_cons.mp hz' with e | m
        · rw [e]; exact leD_refl y
        · exact (List.pairwise_cons.mp h2).1 z m
      cases e : leD z x with
      | false => rfl
      | true => exact absurd (leD_total.trans _ _ _ yz e) hn
theorem dd_mem : ∀ {xs : List D}, (∀ a ∈ xs, ∀ b ∈ xs, leD a b = true → leD b a = true → a = b) → xs.Pairwise (fun a b => leD a b = true) → ∀ {z : D}, z ∈ xs → z ∈ dd xs
  | [], _, _, _, h => by cases h
  | [x], _, _, _, h => h
  | x :: y :: r, an, pw, z, h => by
    obtain ⟨h1, h2⟩ := List.pairwise_cons.mp pw
    have ih := fun {z} => dd_mem (xs := y :: r) (fun a ha b hb => an a (List.mem_cons_of_mem _ ha) b (List.mem_cons_of_mem _ hb)) h2 (z := z)
    rw [dd_cc]
    split
    · rename_i hy
      rcases List.mem_cons.mp h with e | h
      · have : x = y := an x List.mem_cons_self y (List.mem_cons_of_mem _ List.mem_cons_self) (h1 y List.mem_cons_self) hy
        rw [e, this]
        exact ih List.mem_cons_self
      · exact ih h
    · rcases List.mem_cons.mp h with e | h
      · rw [e]; exact List.mem_cons_self
      · exact List.mem_cons_of_mem _ (ih h)
/-- strictly rising, the same members: the same -/
theorem strict_uniq : ∀ {l m : List D}, (l.Pairwise fun a b => leD b a = false) → (m.Pairwise fun a b => leD b a = false) → (∀ z, z ∈ l ↔ z ∈ m) → l = m
  | [], [], _, _, _ => rfl
  | [], y :: m, _, _, h => by have := (h y).mpr List.mem_cons_self; cases this
  | x :: l, [], _, _, h => by have := (h x).mp List.mem_cons_self; cases this
  | x :: l, y :: m, h1, h2, h => by
    obtain ⟨a1, a2⟩ := List.pairwise_cons.mp h1
    obtain ⟨b1, b2⟩ := List.pairwise_cons.mp h2
    have e : x = y := by
      rcases List.mem_cons.mp ((h x).mp List.mem_cons_self) with e | hx
      · exact e
      · rcases List.mem_cons.mp ((h y).mpr List.mem_cons_self) with e | hy
        · exact e.symm
        · have p := b1 x hx
          have q := leD_of_not (a1 y hy)
          rw [p] at q; cases q
    subst e
    have t : l = m := strict_uniq a2 b2 fun z => by
      constructor
      · intro hz
        rcases List.mem_cons.mp ((h z).mp (List.mem_cons_of_mem _ hz)) with e | hm
        · subst e
          have := a1 z hz
          rw [leD_refl] at this; cases this
        · exact hm
      · intro hz
        rcases List.mem_cons.mp ((h z).mpr (List.mem_cons_of_mem _ hz)) with e | hm
        · subst e
          have := b1 z hz
          rw [leD_refl] at this; cases this
        · exact hm
    rw [t]
/-- of data that are of one rank only where they are the same -/
theorem sortset_eq {ds m : List D} (an : ∀ a ∈ ds, ∀ b ∈ ds, leD a b = true → leD b a = true → a = b) (pw : m.Pairwise fun a b => leD b a = false) (hm : ∀ z, z ∈ m ↔ z ∈ ds) : m = dd (isort ds) :=
  strict_uniq pw (dd_strict (isort_sorted ds)) fun z => by
    rw [hm]
    constructor
    · intro hz
      exact dd_mem (fun a ha b hb => an a (isort_mem.mp ha) b (isort_mem.mp hb)) (isort_sorted ds) (isort_mem.mpr hz)
    · intro hz
      exact isort_mem.mp (dd_sub hz)
def intsOf : List D → Option (List Int)
  | [] => some []
  | .int i :: r => match intsOf r with
    | some is => some (i :: is)
    | none => none
  | _ :: _ => none
theorem intsOf_some : ∀ {ds : List D} {ns : List Int}, intsOf ds = some ns → ds = ns.map .int
  | [], _, h => by cases h; rfl
  | d :: r, ns, h => by
    cases d <;> try (cases h; done)
    unfold intsOf at h
    cases e : intsOf r with
    | none => rw [e] at h; cases h
    | some is =>
      rw [e] at h
      cases h
      rw [intsOf_some e]
      rfl
def bigB : Int := 1073741824
def bd (ns : List Int) : Bool := ns.all fun m => decide (0 ≤ m) && decide (m < bigB)
def tupsOf (d : Nat) : List D → Option (List (List Int))
  | [] => some []
  | .tuple xs :: r => match intsOf xs with
    | some ns => if ns.length = d && bd ns then match tupsOf d r with
        | some is => some (ns :: is)
        | none => none
      else none
    | none => none
  | _ :: _ => none
theorem tupsOf_some {d : Nat} : ∀ {ds : List D} {ns : List (List Int)}, tupsOf d ds = some ns → ds = ns.map tupI ∧ ∀ n ∈ ns, n.length = d ∧ TS.Bd bigB n
  | [], _, h => by cases h; exact ⟨rfl, fun _ z => by cases z⟩
  | x :: r, ns, h => by
    cases x <;> try (cases h; done)
    rename_i xs
    unfold tupsOf at h
    cases e1 : intsOf xs with
    | none => rw [e1] at h; cases h
    | some n =>
      rw [e1] at h
      simp only at h
      split at h
      case isFalse => cases h
      rename_i hb
      cases e2 : tupsOf d r with
      | none => rw [e2] at h; cases h
      | some is =>
        rw [e2] at h
        cases h
        obtain ⟨h1, h2⟩ := tupsOf_some e2
        simp only [Bool.and_eq_true, decide_eq_true_eq] at hb
        refine ⟨by rw [h1, intsOf_some e1]; rfl, fun m hm => ?_⟩
        rcases List.mem_cons.mp hm with e | hm
        · subst e
          refine ⟨hb.1, fun k hk => ?_⟩
          have := List.all_eq_true.mp hb.2 k hk
          simpa using this
        · exact h2 m hm
theorem int_anti {ns : List Int} : ∀ a ∈ ns.map PyData.int, ∀ b ∈ ns.map PyData.int, leD a b = true → leD b a = true → a = b := by
  intro a ha b hb h1 h2
  obtain ⟨i, _, rfl⟩ := List.mem_map.mp ha
  obtain ⟨j, _, rfl⟩ := List.mem_map.mp hb
  rw [leD_int] at h1 h2
  simp only [decide_eq_true_eq] at h1 h2
  have : i = j := by omega
  rw [this]
theorem tup_anti {ns : List (List Int)} : ∀ a ∈ ns.map tupI, ∀ b ∈ ns.map tupI, leD a b = true → leD b a = true → a = b := by
  intro a ha b hb h1 h2
  obtain ⟨i, _, rfl⟩ := List.mem_map.mp ha
  obtain ⟨j, _, rfl⟩ := List.mem_map.mp hb
  rw [leD_tup] at h1 h2
  simp only [Bool.not_eq_true', decide_eq_false_iff_not] at h1 h2
  rw [List.le_antisymm (List.not_lt.mp h1) (List.not_lt.mp h2)]
theorem code_lt_of {B : Int} : ∀ {x y : List Int}, x.length = y.length → TS.Bd B x → TS.Bd B y → x < y → TS.code B x < TS.code B y
  | [], [], _, _, _, h => absurd h (List.lt_irrefl _)
  | [], _ :: _, hl, _, _, _ => by simp at hl
  | _ :: _, [], hl, _, _, _ => by simp at hl
  | d :: r, e :: q, hl, h1, h2, h => by
    have hl' : r.length = q.length := by simpa using hl
    rcases List.cons_lt_cons_iff.mp h with h | ⟨h, h'⟩
    · exact TS.code_lt hl' h1.tail h2.tail h
    · subst h
      exact (TS.code_same hl').mpr (code_lt_of hl' h1.tail h2.tail h')
def gSS (ds : List D) : Option (List D) :=
  match intsOf ds with
  | some ns => if ns.length < 64 then some (dd (isort ds)) else none
  | none => match ds with
    | .tuple (x :: xs) :: _ => match tupsOf (xs.length + 1) ds with
      | some _ => if (dd (isort ds)).length < 63 then some (dd (isort ds)) else none
      | none => none
    | _ => none
section
variable {X : Cx}
/-- set(xs), xs a list of ints -/
def rSetI (K : PySem.W.Frag) (w : World) : List V → Hp → VK → Prop := fun xs H Q => ∃ (l : Addr) (ns : List Int), xs = [V.ref l] ∧ SqL K H l (ns.map V.int) ∧ ns.length < 64 ∧ ∀ a c, H a = none → c ≤ ns.length → Q (.ref a) (upd H a (SetO w a (fun j => decide (j ∈ ns)) c))
theorem cr_setI (hc : X.calm = true) : CallR X (.type "set") (rSetI X.K X.w) := by
  intro pins s σ H xs us Q I r ⟨l, ns, e, hq, hl, q⟩
  subst e
  obtain ⟨u, rfl, rx⟩ := vals1' r
  cases rx
  obtain ⟨its, rv, pl, hz⟩ := I.list hq
  refine set_of_list ns (I.ok.hd hc) pl.isList (by simpa using rv.ints) (by unfold scanBound; omega) fun h' tk c R hcl k => ?_
  exact ⟨.ref s.heap.objs.size, _, I.laid (t' := tk) k (Nat.le_refl _) (setO_new R), rfl, q _ c (I.hok.fresh (Nat.le_refl _)) hcl⟩
theorem reps_ints {K : PySem.W.Frag} {H : Hp} : ∀ {vs : List V} {ns : List Int}, RepDs K H vs (ns.map .int) → vs = ns.map V.int
  | _, [], r => by cases r; rfl
  | _, n :: ns, r => by
    rw [List.map_cons] at r
    cases r with
    | cons r t => cases r; rw [reps_ints t]; rfl
theorem ints_reps {K : PySem.W.Frag} {H : Hp} : ∀ (ns : List Int), RepDs K H (ns.map V.int) (ns.map .int)
  | [] => .nil
  | n :: ns => .cons (.int n) (ints_reps ns)
theorem reps_tups {K : PySem.W.Frag} {H : Hp} : ∀ {vs : List V} {ns : List (List Int)}, RepDs K H vs (ns.map tupI) → ∃ ks : List (Addr × List Int), vs = ks.map (fun p => V.ref p.1) ∧ ns = ks.map Prod.snd ∧ ∀ p ∈ ks, SqT K H p.1 (p.2.map V.int)
  | _, [], r => by cases r; exact ⟨[], rfl, rfl, fun _ z => by cases z⟩
  | _, n :: ns, r => by
    rw [List.map_cons] at r
    cases r with
    | cons r t =>
      obtain ⟨ks, h1, h2, h3⟩ := reps_tups t
      cases r with
      | @tup a xs _ hq rs =>
        have e := reps_ints rs
        subst e
        refine ⟨(a, n) :: ks, by rw [h1]; rfl, by rw [h2]; rfl, fun p hp => ?_⟩
        rcases List.mem_cons.mp hp with e | hp
        · subst e; exact hq
        · exact h3 p hp
theorem tups_reps {K : PySem.W.Frag} {H : Hp} : ∀ (ks : List (Addr × List Int)), (∀ p ∈ ks, SqT K H p.1 (p.2.map V.int)) → RepDs K H (ks.map fun p => V.ref p.1) (ks.map fun p => tupI p.2)
  | [], _ => .nil
  | p :: ks, h => .cons (.tup (h p List.mem_cons_self) (ints_reps _)) (tups_reps ks fun q hq => h q (List.mem_cons_of_mem _ hq))
theorem nodup_len {α : Type} [DecidableEq α] : ∀ {l m : List α}, l.Nodup → (∀ x ∈ l, x ∈ m) → l.length ≤ m.length
  | [], _, _, _ => Nat.zero_le _
  | x :: l, m, h, hs => by
    obtain ⟨h1, h2⟩ := List.nodup_cons.mp h
    have hx := hs x List.mem_cons_self
    have ih := nodup_len (m := m.erase x) h2 fun y hy => (List.mem_erase_of_ne (fun e => h1 (by rw [← e]; exact hy))).mpr (hs y (List.mem_cons_of_mem _ hy))
    rw [List.length_erase_of_mem hx] at ih
    have : 0 < m.length := List.length_pos_of_mem hx
    rw [List.length_cons]
    omega
theorem ints_inj : ∀ {a b : List Int}, a.map PyData.int = b.map PyData.int → a = b
  | [], [], _ => rfl
  | [], _ :: _, h => by cases h
  | _ :: _, [], h => by cases h
  | x :: a, y :: b, h => by
    rw [List.map_cons, List.map_cons] at h
    injection h with h1 h2
    injection h1 with h1
    rw [h1, ints_inj h2]
theorem tupI_inj {a b : List Int} (h : tupI a = tupI b) : a = b := by
  unfold tupI at h
  injection h with h
  exact ints_inj h
theorem few_of {ks : List (Addr × List Int)} (h : (dd (isort (ks.map fun p => tupI p.2))).length < 63) : FewD ks := fun L nd sub => by
  classical
  have n2 : (L.map Prod.snd).Nodup := nd
  have e0 : (ks.map fun p => tupI p.2) = (ks.map Prod.snd).map tupI := by rw [List.map_map]; rfl
  have all : ∀ z ∈ (L.map Prod.snd), z ∈ ks.map Prod.snd := fun z hz => by
    obtain ⟨q, hq, rfl⟩ := List.mem_map.mp hz
    exact List.mem_map_of_mem (sub q hq)
  -- by the lists of ints themselves
  have back : ∀ z ∈ dd (isort (ks.map fun p => tupI p.2)), ∃ k, z = tupI k := fun z hz => by
    have := isort_mem.mp (dd_sub hz)
    obtain ⟨q, _, e⟩ := List.mem_map.mp this
    exact ⟨q.2, e.symm⟩
  let un : D → List Int := fun z => if h : ∃ k, z = tupI k then h.choose else []
  have unT : ∀ k, un (tupI k) = k := fun k => by
    have hx : ∃ k', tupI k = tupI k' := ⟨k, rfl⟩
    show (if h : ∃ k', tupI k = tupI k' then h.choose else []) = k
    rw [dif_pos hx]
    exact (tupI_inj hx.choose_spec).symm
  have := nodup_len (m := (dd (isort (ks.map fun p => tupI p.2))).map un) n2 fun z hz => by
    have hm : tupI z ∈ dd (isort (ks.map fun p => tupI p.2)) := by
      rw [e0]
      refine dd_mem (fun a ha b hb => tup_anti a (isort_mem.mp ha) b (isort_mem.mp hb)) (isort_sorted _) (isort_mem.mpr (List.mem_map_of_mem (all z hz)))
    exact List.mem_map.mpr ⟨tupI z, hm, unT z⟩
  rw [List.length_map, List.length_map] at this
  omega
/-- set(xs), xs a list of tuples of ints of which few are distinct -/
def rSetT (K : PySem.W.Frag) (P : Program) (w : World) : List V → Hp → VK → Prop := fun xs H Q => ∃ (l : Addr) (ks : List (Addr × List Int)), xs = [V.ref l] ∧ SqL K H l (ks.map fun p => V.ref p.1) ∧ (∀ p ∈ ks, SqT K H p.1 (p.2.map V.int)) ∧ FewD ks ∧
  ∀ a L, H a = none → (∀ p ∈ L, p ∈ ks) → (∀ p ∈ ks, p.2 ∈ L.map (·.2)) → Q (.ref a) (upd H a (SetTO P w a L))
theorem cr_setT (hc : X.calm = true) (hu : X.A.units + 64 < cLine) : CallR X (.type "set") (rSetT X.K X.prog X.w) := by
  intro pins s σ H xs us Q I r ⟨l, ks, e, hl, hk, few, q⟩
  subst e
  obtain ⟨u, rfl, rx⟩ := vals1' r
  cases rx
  obtain ⟨its, rv, pl, hz⟩ := I.list hl
  have hn : H s.heap.objs.size = none := I.hok.fresh (Nat.le_refl _)
  refine set_of_tups (P := X.prog) (w := X.w) ks (I.ok.hd hc) pl.isList (by simpa using refs_of_vals rv) (fun p hp => I.isT (hk p hp)) few (by omega) fun h' tk L es ep t R g k => ?_
  exact ⟨.ref s.heap.objs.size, _, I.laid (t' := tk) k (Nat.le_refl _) (setTO_new R.t0), rfl, q _ L hn (fun p hp => List.mem_of_mem_take (g.sub p hp)) fun p hp => g.all p (by rw [List.take_length]; exact hp)⟩
/-- sorted(set(xs)) in two steps -/
def rSS (K : PySem.W.Frag) (P : Program) (w : World) : List V → Hp → VK → Prop := fun xs H Q => ∃ (l : Addr) (vs : List V) (ds out : List D), xs = [V.ref l] ∧ SqL K H l vs ∧ RepDs K H vs ds ∧ gSS ds = some out ∧
  ∀ a o p ws, H a = none → upd H a o p = none → RepDs K H ws out → Q (.ref p) (upd (upd H a o) p (.lst ws))
end
def mSS (m : M) : M := fun ρ => (m ρ).bind fun p => match pk p.2 p.1 with
  | some (.list ds) => match gSS ds with
    | some out => .ok (.new (.lst out), p.2)
    | none => .stuck
  | _ => .stuck
section
variable {X : Cx} {W : WX} {e : Expr} {pos pos2 p1 p2 : Pos} {m : M}
theorem pe_mSS (rm : Rm X.A) (hc : X.calm = true) (hg : Gl X "sorted") (hm : X.mg "sorted" = none) (hg2 : Gl X "set") (hm2 : X.mg "set" = none) (he : PE X e (tOf X.K X.mg W m))
    (hs : starEach [e] X.env = (false, eval e X.env) :: starEach [] X.env) (hs2 : starEach [.Call (.Name "set" p2) [e] [] pos2] X.env = (false, eval (.Call (.Name "set" p2) [e] [] pos2) X.env) :: starEach [] X.env)
    (hpl : (backTo pos2 (starEach [] X.env)).any (·.1) = false) (hpl2 : (backTo pos (starEach [] X.env)).any (·.1) = false) :
    PE X (.Call (.Name "sorted" p1) [.Call (.Name "set" p2) [e] [] pos2] [] pos) (tOf X.K X.mg W (mSS m)) := by
  have hu : X.A.units + 64 < cLine := by have := rm.un; omega
  have s1 : PE X (.Call (.Name "set" p2) [e] [] pos2) _ := pe_callTy (cr_setI hc) hg2 hm2 PyProof.Rows.boot_set (pa_cons he pa_nil hs) (by decide) (by decide) hs hpl
  have s2 : PE X (.Call (.Name "set" p2) [e] [] pos2) _ := pe_callTy (cr_setT hc hu) hg2 hm2 PyProof.Rows.boot_set (pa_cons he pa_nil hs) (by decide) (by decide) hs hpl
  have t1 : PE X (.Call (.Name "sorted" p1) [.Call (.Name "set" p2) [e] [] pos2] [] pos) _ := pe_callB (cr_sortedSet hc) hg hm (by decide +kernel) (pa_cons s1 pa_nil hs2) (by decide) (by decide) hs2 hpl2
  have t2 : PE X (.Call (.Name "sorted" p1) [.Call (.Name "set" p2) [e] [] pos2] [] pos) _ := pe_callB (cr_sortedT hc) hg hm (by decide +kernel) (pa_cons s2 pa_nil hs2) (by decide) (by decide) hs2 hpl2
  refine ⟨fun pins s σ H Q I ⟨ρ, S, q⟩ => ?_⟩
  unfold mSS at q
  cases e1 : m ρ with
  | stuck => rw [e1] at q; exact q.elim
  | exc x => rw [e1] at q; exact t1.run pins s σ H Q I ⟨ρ, S, by rw [e1]; exact q⟩
  | ok pr =>
    obtain ⟨r, ρ1⟩ := pr
    rw [e1] at q
    simp only [Ot.bind] at q
    cases e2 : pk ρ1 r with
    | none => rw [e2] at q; exact q.elim
    | some x =>
      rw [e2] at q
      cases x <;> try (exact q.elim)
      rename_i ds
      simp only at q
      cases e3 : gSS ds with
      | none => rw [e3] at q; exact q.elim
      | some out =>
        rw [e3] at q
        unfold gSS at e3
        split at e3
        · rename_i ns en
          split at e3
          case isFalse => cases e3
          rename_i hl
          cases e3
          have ed := intsOf_some en
          refine t1.run pins s σ H Q I ⟨ρ, S, ?_⟩
          rw [e1]
          intro v H1 p1
          obtain ⟨a, vs, rfl, hq, rs⟩ := (pk_rep p1.sim p1.at_ e2).sq
          rw [ed] at rs
          have ev := reps_ints rs
          subst ev
          refine ⟨a, ns, rfl, hq, hl, fun b c hb hcl => ⟨b, _, c, rfl, upd_same, by omega, fun ns' p hs hmem hlen hp => ?_⟩⟩
          have hout : ns'.map PyData.int = dd (isort ds) := by
            rw [ed]
            refine sortset_eq int_anti ?_ fun z => ?_
            · rw [List.pairwise_map]
              refine hs.imp fun {x y} h => ?_
              rw [leD_int]
              simp only [decide_eq_false_iff_not]
              omega
            · rw [List.mem_map, List.mem_map]
              constructor
              · rintro ⟨k, hk, rfl⟩
                exact ⟨k, by simpa using (hmem k).mp hk, rfl⟩
              · rintro ⟨k, hk, rfl⟩
                exact ⟨k, (hmem k).mpr (by simpa using hk), rfl⟩
          have m2 := Mid.updN (o := SetO X.w b (fun j => decide (j ∈ ns)) c) p1.sim hb
          have m3 := Mid.updN (o := .lst (ns'.map V.int)) m2.sim hp
          refine q _ _ ((p1.mid.trans (m2.trans m3)).post ⟨p, _, rfl, upd_same, ?_, m2.sim.not_ow hp⟩ fun a e => ?_)
          · rw [← hout]
            exact ints_reps ns'
          · cases e
            exact p1.grow _ (m2.grow _ hp)
        · split at e3
          case h_2 => cases e3
          rename_i x xs r'
          split at e3
          case h_2 => cases e3
          rename_i ns en
          split at e3
          case isFalse => cases e3
          rename_i hl
          cases e3
          obtain ⟨ed, hbd⟩ := tupsOf_some en
          refine t2.run pins s σ H Q I ⟨ρ, S, ?_⟩
          rw [e1]
          intro v H1 p1
          obtain ⟨a, vs, rfl, hq, rs⟩ := (pk_rep p1.sim p1.at_ e2).sq
          rw [ed] at rs
          obtain ⟨ks, ev, en2, hk⟩ := reps_tups rs
          subst ev
          subst en2
          have hlk : FewD ks := few_of (by
            have e0 : (ks.map fun p => tupI p.2) = (ks.map Prod.snd).map tupI := by rw [List.map_map]; rfl
            rw [e0, ← ed]
            exact hl)
          refine ⟨a, ks, rfl, hq, hk, hlk, fun b L hb hsub hall => ?_⟩
          have m2 := Mid.updN (o := SetTO X.prog X.w b L) p1.sim hb
          refine ⟨b, L, x.length + 1, bigB, rfl, upd_same, fun p hp => (m2.pers p1.sim).sqT (hk p (hsub p hp)), by omega, fun p hp => hbd _ (List.mem_map_of_mem (hsub p hp)), fun L' p pm nd hL' pw hp => ?_⟩
          have hsub' : ∀ p ∈ L', p ∈ ks := fun p hp => hsub p (pm.mem_iff.mp hp)
          have hout : L'.map (fun p => tupI p.2) = dd (isort (ks.map fun p => tupI p.2)) := by
            have e0 : (ks.map fun p => tupI p.2) = (ks.map Prod.snd).map tupI := by rw [List.map_map]; rfl
            refine sortset_eq (by rw [e0]; exact tup_anti) ?_ fun z => ?_
            · rw [List.pairwise_map]
              have both := List.Pairwise.and pw (List.pairwise_map.mp nd)
              refine List.Pairwise.imp_of_mem (fun {x y} hx hy h => ?_) both
              rw [leD_tup]
              simp only [Bool.not_eq_false', decide_eq_true_eq]
              have bx := hbd _ (List.mem_map_of_mem (hsub' x hx))
              have by' := hbd _ (List.mem_map_of_mem (hsub' y hy))
              by_cases h1 : x.2 < y.2
              · exact h1
              · exfalso
                by_cases h2 : y.2 < x.2
                · have := code_lt_of (by rw [bx.1, by'.1]) by'.2 bx.2 h2
                  have h3 := h.1
                  omega
                · exact h.2 (List.le_antisymm (List.not_lt.mp h2) (List.not_lt.mp h1))
            · rw [List.mem_map, List.mem_map]
              constructor
              · rintro ⟨k, hk', rfl⟩
                exact ⟨k, hsub' k hk', rfl⟩
              · rintro ⟨k, hk', rfl⟩
                obtain ⟨k2, hk2, e⟩ := List.mem_map.mp (hall k hk')
                exact ⟨k2, pm.mem_iff.mpr hk2, by rw [e]⟩
          have m3 := Mid.updN (o := .lst (L'.map fun q => V.ref q.1)) m2.sim hp
          refine q _ _ ((p1.mid.trans (m2.trans m3)).post ⟨p, _, rfl, upd_same, ?_, m2.sim.not_ow hp⟩ fun a e => ?_)
          · rw [ed, List.map_map]
            show RepDs _ _ _ (dd (isort (ks.map fun p => tupI p.2)))
            rw [← hout]
            exact RepDs.pers (m3.pers m2.sim) (tups_reps L' fun p hp' => (m2.pers p1.sim).sqT (hk p (hsub' p hp')))
          · cases e
            exact p1.grow _ (m2.grow _ hp)
end
end Mp
set_option maxHeartbeats 1000000
/-! Mp17: dicts. -/
namespace Mp
open PySem PySem.Spec PyProof.Rows L2
section
variable {κ : Type} [DecidableEq κ]
def valD (kvs : List (κ × D)) (k : κ) : Option D := (kvs.find? fun p => decide (p.1 = k)).map (·.2)
def putD (kvs : List (κ × D)) (k : κ) (d : D) : List (κ × D) :=
  if (kvs.any fun p => decide (p.1 = k)) = true then kvs.map (fun p => if p.1 = k then (p.1, d) else p) else kvs ++ [(k, d)]
/-- key by key -/
def RepK (K : PySem.W.Frag) (H : Hp) (kws : List (κ × V)) (kvs : List (κ × D)) : Prop := kws.map Prod.fst = kvs.map Prod.fst ∧ RepDs K H (kws.map Prod.snd) (kvs.map Prod.snd)
variable {K : PySem.W.Frag} {H : Hp}
theorem RepK.cons {p : κ × V} {q : κ × D} {ps : List (κ × V)} {qs : List (κ × D)} (h : RepK K H (p :: ps) (q :: qs)) : p.1 = q.1 ∧ RepD K H p.2 q.2 ∧ RepK K H ps qs := by
  obtain ⟨h1, h2⟩ := h
  rw [List.map_cons, List.map_cons] at h1 h2
  injection h1 with a b
  cases h2 with
  | cons c d => exact ⟨a, c, b, d⟩
theorem RepK.mk' {p : κ × V} {q : κ × D} {ps : List (κ × V)} {qs : List (κ × D)} (h1 : p.1 = q.1) (h2 : RepD K H p.2 q.2) (h3 : RepK K H ps qs) : RepK K H (p :: ps) (q :: qs) :=
  ⟨by rw [List.map_cons, List.map_cons, h1, h3.1], .cons h2 h3.2⟩
theorem RepK.nil_r {qs : List (κ × D)} (h : RepK K H [] qs) : qs = [] := by
  cases qs with
  | nil => rfl
  | cons q qs => cases h.1
theorem RepK.nil_l {ps : List (κ × V)} (h : RepK K H ps []) : ps = [] := by
  cases ps with
  | nil => rfl
  | cons q qs => cases h.1
theorem RepK.length : ∀ {kws : List (κ × V)} {kvs : List (κ × D)}, RepK K H kws kvs → kws.length = kvs.length
  | kws, kvs, h => by
    have := congrArg List.length h.1
    rw [List.length_map, List.length_map] at this
    exact this
theorem RepK.val (k : κ) : ∀ {kws : List (κ × V)} {kvs : List (κ × D)}, RepK K H kws kvs → (valV kws k = none ∧ valD kvs k = none) ∨ ∃ v d, valV kws k = some v ∧ valD kvs k = some d ∧ RepD K H v d
  | [], kvs, h => by rw [h.nil_r]; exact .inl ⟨rfl, rfl⟩
  | p :: ps, [], h => by have := h.nil_l; cases this
  | p :: ps, q :: qs, h => by
    obtain ⟨h1, h2, h3⟩ := h.cons
    by_cases e : p.1 = k
    · exact .inr ⟨p.2, q.2, valV_pos e, by simp [valD, List.find?_cons, ← h1, e], h2⟩
    · rcases RepK.val k h3 with ⟨a, b⟩ | ⟨v, d, a, b, c⟩
      · exact .inl ⟨by rw [valV_neg e]; exact a, by rw [← b]; simp [valD, List.find?_cons, ← h1, e]⟩
      · exact .inr ⟨v, d, by rw [valV_neg e]; exact a, by rw [← b]; simp [valD, List.find?_cons, ← h1, e], c⟩
theorem RepK.any (k : κ) : ∀ {kws : List (κ × V)} {kvs : List (κ × D)}, RepK K H kws kvs → (kws.any fun p => decide (p.1 = k)) = kvs.any fun p => decide (p.1 = k)
  | [], kvs, h => by rw [h.nil_r]; rfl
  | p :: ps, [], h => by have := h.nil_l; cases this
  | p :: ps, q :: qs, h => by
    obtain ⟨h1, h2, h3⟩ := h.cons
    rw [List.any_cons, List.any_cons, RepK.any k h3, h1]
theorem RepK.app {p : κ × V} {q : κ × D} (h1 : p.1 = q.1) (h2 : RepD K H p.2 q.2) {kws : List (κ × V)} {kvs : List (κ × D)} (h : RepK K H kws kvs) : RepK K H (kws ++ [p]) (kvs ++ [q]) :=
  ⟨by rw [List.map_append, List.map_append, h.1, List.map_singleton, List.map_singleton, h1], by rw [List.map_append, List.map_append]; exact h.2.append (.cons h2 .nil)⟩
theorem RepK.repl {k : κ} {v : V} {d : D} (r : RepD K H v d) : ∀ {kws : List (κ × V)} {kvs : List (κ × D)}, RepK K H kws kvs → RepK K H (kws.map fun p => if p.1 = k then (p.1, v) else p) (kvs.map fun p => if p.1 = k then (p.1, d) else p)
  | [], kvs, h => by rw [h.nil_r]; exact ⟨rfl, .nil⟩
  | p :: ps, [], h => by have := h.nil_l; cases this
  | p :: ps, q :: qs, h => by
    obtain ⟨h1, h2, h3⟩ := h.cons
    rw [List.map_cons, List.map_cons]
    by_cases e : p.1 = k
    · rw [if_pos e, if_pos (by rw [← h1]; exact e)]
      exact RepK.mk' h1 r (RepK.repl r h3)
    · rw [if_neg e, if_neg (by rw [← h1]; exact e)]
      exact RepK.mk' h1 h2 (RepK.repl r h3)
theorem RepK.put {k : κ} {v : V} {d : D} (r : RepD K H v d) {kws : List (κ × V)} {kvs : List (κ × D)} (h : RepK K H kws kvs) : RepK K H (putK kws k v) (putD kvs k d) := by
  unfold putK putD
  rw [h.any k]
  split
  · exact h.repl r
  · exact h.app rfl r
end
def keyOfD : D → Option Key
  | .int i => some (.inl i)
  | .str x => some (.inr x)
  | _ => none
def unK : List (D × D) → Option (List (Key × D))
  | [] => some []
  | p :: r => match keyOfD p.1 with
    | some k => match unK r with
      | some kvs => some ((k, p.2) :: kvs)
      | none => none
    | none => none
theorem keyOf_keyD (k : Key) : keyOfD (keyD k) = some k := by cases k <;> rfl
theorem unK_kvD : ∀ kvs : List (Key × D), unK (kvD kvs) = some kvs
  | [] => rfl
  | p :: r => by
    show unK ((keyD p.1, p.2) :: kvD r) = _
    unfold unK
    simp only [keyOf_keyD, unK_kvD r]
theorem unK_kvT {kvs : List (List Key × D)} (h : kvs ≠ []) : unK (kvT kvs) = none := by
  cases kvs with
  | nil => exact absurd rfl h
  | cons p r => rfl
section
variable {K : PySem.W.Frag} {H : Hp}
theorem RepP.dk {v : V} {ds : List (D × D)} {kvs : List (Key × D)} (h : RepP K H v (.dict ds)) (e : unK ds = some kvs) : ∃ a kws, v = .ref a ∧ Rd H a (.dK kws) ∧ RepK K H kws kvs := by
  rcases h with h | ⟨a, o, b, ev, hl, rs, ed, bk⟩
  · cases h with
    | @dct a kws kvs' hq hk rs =>
      rw [unK_kvD] at e
      cases e
      exact ⟨a, kws, rfl, .inr hq, hk, rs⟩
    | dtt hq hn hk rs =>
      rw [unK_kvT hn] at e
      cases e
  · cases b with
    | lst xs => cases ed
    | dct kvs' =>
      cases ed
      rw [unK_kvD] at e
      cases e
      cases o <;> try (exact rs.elim)
      exact ⟨a, _, ev, .inl hl, rs⟩
    | dtt kvs' =>
      cases ed
      have hn : kvs' ≠ [] := by rintro rfl; cases bk
      rw [unK_kvT hn] at e
      cases e
theorem key_rep {v : V} {d : D} {k : Key} (h : RepP K H v d) (e : keyOfD d = some k) : v = kV k := by
  cases d <;> try (cases e; done)
  · cases e; rw [h.i]; rfl
  · cases e; rw [h.s]; rfl
end
/-! ### d[k], k in d -/
def gInA : D → D → Option Res
  | x, .dict ds => match keyOfD x, unK ds with
    | some k, some kvs => some (.d (.bool (valD kvs k).isSome))
    | _, _ => none
  | x, y => gIn x y
def gNotInA : D → D → Option Res
  | x, .dict ds => match keyOfD x, unK ds with
    | some k, some kvs => some (.d (.bool (!(valD kvs k).isSome)))
    | _, _ => none
  | x, y => gNotIn x y
section
variable {X : Cx}
theorem val_get {K : PySem.W.Frag} {H : Hp} {a : Addr} {kws : List (Key × V)} {kvs : List (Key × D)} {k : Key} (e : Rd H a (.dK kws)) (r : RepK K H kws kvs) : ∃ o, DGet H a (kV k) o ∧ ((o = none ∧ valD kvs k = none) ∨ ∃ v d, o = some v ∧ valD kvs k = some d ∧ RepD K H v d) :=
  ⟨valV kws k, .inl ⟨kws, k, e, rfl, rfl⟩, r.val k⟩
theorem og_inA (rm : Rm X.A) : OpR X (compareOp .In) (rD2 X.K gInA) := by
  intro pins s σ H x y v u Q I rx ry ⟨dx, dy, res, px, py, eg, q⟩
  cases dy with
  | dict ds =>
    dsimp only [gInA] at eg
    cases e1 : keyOfD dx with
    | none => rw [e1] at eg; cases eg
    | some k =>
      cases e2 : unK ds with
      | none => rw [e1, e2] at eg; cases eg
      | some kvs =>
        rw [e1, e2] at eg
        cases eg
        obtain ⟨a, kws, rfl, hd, rk⟩ := py.dk e2
        have ex := key_rep px e1
        subst ex
        cases ry
        obtain ⟨o, g, ho⟩ := val_get (k := k) hd rk
        have hs : o.isSome = (valD kvs k).isSome := by
          rcases ho with ⟨a, b⟩ | ⟨v, d, a, b, _⟩ <;> rw [a, b] <;> rfl
        exact d_in (by have := rm.un; omega) I g rx fun s' I' => ⟨.bl _, H, I', rfl, q _ (by rw [hs]; exact .bool _)⟩
  | _ => exact og_in rm pins s σ H x y v u Q I rx ry ⟨dx, _, res, px, py, eg, q⟩
theorem og_notInA (rm : Rm X.A) : OpR X (compareOp .NotIn) (rD2 X.K gNotInA) := by
  intro pins s σ H x y v u Q I rx ry ⟨dx, dy, res, px, py, eg, q⟩
  cases dy with
  | dict ds =>
    dsimp only [gNotInA] at eg
    cases e1 : keyOfD dx with
    | none => rw [e1] at eg; cases eg
    | some k =>
      cases e2 : unK ds with
      | none => rw [e1, e2] at eg; cases eg
      | some kvs =>
        rw [e1, e2] at eg
        cases eg
        obtain ⟨a, kws, rfl, hd, rk⟩ := py.dk e2
        have ex := key_rep px e1
        subst ex
        cases ry
        obtain ⟨o, g, ho⟩ := val_get (k := k) hd rk
        have hs : o.isSome = (valD kvs k).isSome := by
          rcases ho with ⟨a, b⟩ | ⟨v, d, a, b, _⟩ <;> rw [a, b] <;> rfl
        exact d_notIn (by have := rm.un; omega) I g rx fun s' I' => ⟨.bl _, H, I', rfl, q _ (by rw [hs]; exact .bool _)⟩
  | _ => exact og_notIn rm pins s σ H x y v u Q I rx ry ⟨dx, _, res, px, py, eg, q⟩
def rIxDK : R2 := fun x y H Q => ∃ a v, x = .ref a ∧ DGet H a y (some v) ∧ Q v H
end
/-- what is read at a place, at a key -/
def ixR (ρ : Env) (r i : Rs) : Option D :=
  match sq ρ r with
  | some xs => match i with
    | .d (.int i) => atI (ofSum xs) i
    | _ => none
  | none => match pk ρ r, i with
    | some (.dict ds), .d k => match keyOfD k, unK ds with
      | some k, some kvs => valD kvs k
      | _, _ => none
    | _, _ => none
def mIxA (a b : M) : M := fun ρ => (a ρ).bind fun p => (b p.2).bind fun q => match ixR q.2 p.1 q.1 with
  | some x => .ok (.d x, q.2)
  | none => .stuck
section
variable {X : Cx} {W : WX} {a b : Expr} {pos : Pos} {ma mb : M}
theorem tOf_ix {K : PySem.W.Frag} {mg : Str → Option Value} {r : R2} {σ : L2.St} {H : Hp} {ρ : Env} {Q : VK} (S : Sim K ρ σ H) (q : EOut K mg W ρ σ H Q (mIxA ma mb ρ))
    (g : ∀ r1 r2 ρ1 ρ2 d, ma ρ = .ok (r1, ρ1) → mb ρ1 = .ok (r2, ρ2) → ixR ρ2 r1 r2 = some d → ∀ x y H2 Q, Sim K ρ2 σ H2 → RsAt K ρ2 σ H2 x r1 → RsAt K ρ2 σ H2 y r2 → (∀ v, RepD K H2 v d → Q v H2) → r x y H2 Q) :
    tOp r (tOf K mg W ma) (tOf K mg W mb) σ H Q := by
  unfold mIxA at q
  refine ⟨ρ, S, ?_⟩
  cases e1 : ma ρ with
  | stuck => rw [e1] at q; exact q.elim
  | exc x => rw [e1] at q; exact q
  | ok p =>
    obtain ⟨r1, ρ1⟩ := p
    rw [e1] at q
    simp only [Ot.bind] at q
    intro x H1 p1
    refine ⟨ρ1, p1.sim, ?_⟩
    cases e2 : mb ρ1 with
    | stuck => rw [e2] at q; exact q.elim
    | exc x =>
      rw [e2] at q
      exact fun cls d H' ex k => q cls d H' ex (p1.keep.trans k fun c z => .inl (p1.sub c z))
    | ok p =>
      obtain ⟨r2, ρ2⟩ := p
      rw [e2] at q
      simp only at q
      intro y H2 p2
      have a1 := RsAt.mid p1.sim p1.at_ p2.mid
      cases e3 : ixR ρ2 r1 r2 with
      | none => rw [e3] at q; exact q.elim
      | some d =>
        rw [e3] at q
        exact g r1 r2 ρ1 ρ2 d e1 e2 e3 x y H2 Q p2.sim a1 p2.at_ fun v rv => q v H2 ((p1.mid.trans p2.mid).post rv trivial)
end
end Mp
namespace Mp
open PySem PySem.Spec PyProof.Rows L2
section
variable {X : Cx} {W : WX} {a b c : Expr} {pos apos : Pos} {ma mb mc : M}
theorem ix_dct (rm : Rm X.A) : IxR X rIxDK := by
  intro value slice pins s σ H x y v u Q I rx ry ⟨p, z, ex, g, q⟩ hs
  subst ex
  cases rx
  exact tail_any (dict_typeIs I g) slot_dict_getitem.lookup (d_getItem (by have := rm.un; omega) I g ry fun w' s' I' r' => ⟨z, H, I', r', q⟩) hs
theorem pe_mIxA (rm : Rm X.A) (ha : PE X a (tOf X.K X.mg W ma)) (hb : PE X b (tOf X.K X.mg W mb)) (hs : PlainIx b) : PE X (.Subscript a b pos) (tOf X.K X.mg W (mIxA ma mb)) := by
  refine PE.weak (pe_ix (IxR.or (IxR.or ix_list ix_tup) (ix_dct rm)) ha hb hs) fun σ H Q ⟨ρ, S, q⟩ => tOf_ix S q fun r1 r2 ρ1 ρ2 d e1 e2 e3 x y H2 Q S2 a1 a2 f => ?_
  unfold ixR at e3
  cases k1 : sq ρ2 r1 with
  | some xs =>
    rw [k1] at e3
    simp only at e3
    cases r2 with
    | new _ => cases e3
    | var _ => cases e3
    | scr _ => cases e3
    | d i =>
      cases i <;> try (cases e3; done)
      rename_i i
      simp only at e3
      have ey : y = .int i := by cases (show RepD X.K H2 y (.int i) from a2); rfl
      subst ey
      cases xs with
      | inl xs =>
        obtain ⟨c, vs, e, hs, rs⟩ := sq_l S2 a1 k1
        obtain ⟨v, ev, rv⟩ := atI_rep rs e3
        exact .inl (.inl ⟨c, vs, i, v, e, rfl, hs, ev, f v rv⟩)
      | inr xs =>
        obtain ⟨c, vs, e, hs, rs⟩ := sq_r S2 a1 k1
        obtain ⟨v, ev, rv⟩ := atI_rep rs e3
        exact .inl (.inr ⟨c, vs, i, v, e, rfl, hs, ev, f v rv⟩)
  | none =>
    rw [k1] at e3
    simp only at e3
    cases k2 : pk ρ2 r1 with
    | none => rw [k2] at e3; cases e3
    | some dx =>
      rw [k2] at e3
      cases dx <;> try (cases e3; done)
      rename_i ds
      cases r2 <;> try (cases e3; done)
      rename_i k
      simp only at e3
      cases k3 : keyOfD k with
      | none => rw [k3] at e3; cases e3
      | some k' =>
        cases k4 : unK ds with
        | none => rw [k3, k4] at e3; cases e3
        | some kvs =>
          rw [k3, k4] at e3
          simp only at e3
          obtain ⟨p, kws, ex, hd, rk⟩ := (pk_rep S2 a1 k2).dk k4
          have ey := key_rep (.inl a2) k3
          subst ey
          obtain ⟨o, g, ho⟩ := val_get (k := k') hd rk
          rcases ho with ⟨_, z⟩ | ⟨v, d', eo, ed, rv⟩
          · rw [z] at e3; cases e3
          · rw [ed] at e3
            cases e3
            subst eo
            exact .inr ⟨p, v, ex, g, f v rv⟩
/-! ### d.get(k, x) -/
def isDk (ρ : Env) (r : Rs) : Bool := match pk ρ r with
  | some (.dict es) => (unK es).isSome
  | _ => false
def getR (ρ : Env) (r : Rs) (k : Rs) (x : Rs) : Option Rs := match pk ρ r, k with
  | some (.dict ds), .d k => match keyOfD k, unK ds with
    | some k, some kvs => match valD kvs k with
      | some x => some (.d x)
      | none => some x
    | _, _ => none
  | _, _ => none
def mGet2 (a b c : M) : M := fun ρ => (a ρ).bind fun p => if isDk p.2 p.1 then (b p.2).bind fun q => (c q.2).bind fun t => match getR t.2 p.1 q.1 t.1 with
    | some r => .ok (r, t.2)
    | none => .stuck
  else .stuck
theorem isD_of {K : PySem.W.Frag} {H : Hp} {p : Addr} {kws : List (Key × V)} (h : Rd H p (.dK kws)) : IsD H p := .inl ⟨kws, h⟩
theorem pe_mGet2 (rm : Rm X.A) (ha : PE X a (tOf X.K X.mg W ma)) (hb : PE X b (tOf X.K X.mg W mb)) (hc : PE X c (tOf X.K X.mg W mc)) (m : M2 X a "get" apos b c pos) : PE X (.Call (.Attribute a "get" apos) [b, c] [] pos) (tOf X.K X.mg W (mGet2 ma mb mc)) := by
  refine PE.weak (pe_dget2 (by have := rm.un; omega) ha hb hc m) fun σ H Q ⟨ρ, S, q⟩ => ⟨ρ, S, ?_⟩
  unfold mGet2 at q
  cases e1 : ma ρ with
  | stuck => rw [e1] at q; exact q.elim
  | exc x => rw [e1] at q; exact q
  | ok p =>
    obtain ⟨r1, ρ1⟩ := p
    rw [e1] at q
    simp only [Ot.bind] at q
    intro x H1 p1
    split at q
    case isFalse => exact q.elim
    rename_i hd
    have isd : ∃ a, x = .ref a ∧ IsD H1 a := by
      unfold isDk at hd
      cases k1 : pk ρ1 r1 with
      | none => rw [k1] at hd; cases hd
      | some dx =>
        rw [k1] at hd
        cases dx <;> try (cases hd; done)
        rename_i es
        simp only at hd
        obtain ⟨kv, h2⟩ := Option.isSome_iff_exists.mp hd
        obtain ⟨a, kws, e, hd, _⟩ := (pk_rep p1.sim p1.at_ k1).dk h2
        exact ⟨a, e, isD_of (K := X.K) hd⟩
    obtain ⟨a', ex, id1⟩ := isd
    refine ⟨a', ex, id1, ρ1, p1.sim, ?_⟩
    cases e2 : mb ρ1 with
    | stuck => rw [e2] at q; exact q.elim
    | exc z =>
      rw [e2] at q
      exact fun cls d H' ex k => q cls d H' ex (p1.keep.trans k fun c z => .inl (p1.sub c z))
    | ok p =>
      obtain ⟨r2, ρ2⟩ := p
      rw [e2] at q
      simp only at q
      intro y H2 p2
      refine ⟨ρ2, p2.sim, ?_⟩
      have m2 := p1.mid.trans p2.mid
      cases e3 : mc ρ2 with
      | stuck => rw [e3] at q; exact q.elim
      | exc z =>
        rw [e3] at q
        exact fun cls d H' ex k => q cls d H' ex (m2.keep.trans k fun c z => .inl (m2.sub c z))
      | ok p =>
        obtain ⟨r3, ρ3⟩ := p
        rw [e3] at q
        simp only at q
        intro w H3 p3
        have m3 := m2.trans p3.mid
        have a1 := RsAt.mid p1.sim p1.at_ (p2.mid.trans p3.mid)
        have a2 := RsAt.mid p2.sim p2.at_ p3.mid
        cases e4 : getR ρ3 r1 r2 r3 with
        | none => rw [e4] at q; exact q.elim
        | some r =>
          rw [e4] at q
          unfold getR at e4
          cases k2 : pk ρ3 r1 with
          | none => rw [k2] at e4; cases e4
          | some dx =>
            rw [k2] at e4
            cases dx <;> try (cases e4; done)
            rename_i ds
            cases r2 <;> try (cases e4; done)
            rename_i k
            simp only at e4
            cases k3 : keyOfD k with
            | none => rw [k3] at e4; cases e4
            | some k' =>
              cases k4 : unK ds with
              | none => rw [k3, k4] at e4; cases e4
              | some kvs =>
                rw [k3, k4] at e4
                simp only at e4
                obtain ⟨p, kws, ex', hd', rk⟩ := (pk_rep p3.sim a1 k2).dk k4
                rw [ex] at ex'
                cases ex'
                have ey := key_rep (.inl a2) k3
                subst ey
                obtain ⟨o, g, ho⟩ := val_get (k := k') hd' rk
                refine ⟨o, g, ?_⟩
                rcases ho with ⟨eo, z⟩ | ⟨v, d', eo, ed, rv⟩
                · rw [z] at e4
                  cases e4
                  subst eo
                  exact q w H3 (m3.post p3.at_ (p3.fresh.grow m2.grow))
                · rw [ed] at e4
                  cases e4
                  subst eo
                  exact q v H3 (m3.post rv trivial)
/-! ### targets, also of dicts -/
def rSetA : V → V → V → Hp → (Hp → Prop) → Prop := fun o i v H Q => rSetL o i v H Q ∨ ∃ a H', o = .ref a ∧ DPut H a i v H' ∧ Q H'
theorem set_any (rm : Rm X.A) : PSet X rSetA := by
  intro pins s σ H o i v ov iv u Q I ro ri rv h
  rcases h with h | ⟨a, H', eo, g, q⟩
  · exact set_list pins s σ H o i v ov iv u Q I ro ri rv h
  · subst eo
    cases ro
    exact d_setItem (by have := rm.un; omega) I g ri rv fun s' I' => ⟨H', I', q⟩
/-- what the i-th name owns behind a store -/
def stB (b : Bx) (k x : D) : Option Bx := match b, k with
  | .lst xs, .int i => match ixN xs.length i with
    | some j => some (.lst (xs.set j x))
    | none => none
  | .dct kvs, k => match keyOfD k with
    | some k => if kvs.length < 1000000 then some (.dct (putD kvs k x)) else none
    | none => none
  | _, _ => none
def gSbA (a b : M) : MT := fun x ρ => (a ρ).bind fun p => (b p.2).bind fun q => match p.1, q.1 with
  | .var i, .d k => match lk q.2 i with
    | some (.own bx) => match stB bx k x with
      | some by' => .ok (q.2.set i (some (.own by')))
      | none => .stuck
    | _ => .stuck
  | _, _ => .stuck
theorem pg_msubA {io : List Nat} (rm : Rm X.A) (ha : PE X a (tOf X.K X.mg W ma)) (hb : PE X b (tOf X.K X.mg W mb))
    (hs : ∀ v, assign (.Subscript a b pos) X.env v = (do
      let ov ← holding [v] (eval a X.env)
      let iv ← holding [v, ov] (eval b X.env)
      standAt pos
      holding [v, ov, iv] (setItem ov iv v)
      release [v, ov, iv] [])) : PG X (.Subscript a b pos) (tG X.K X.mg W io (gSbA ma mb)) := by
  refine PG.weak (pg_sub ha hb (set_any rm) hs) fun v σ H Q ⟨ρ, x, S, r, q⟩ => ⟨ρ, S, ?_⟩
  dsimp only [gSbA] at q
  cases e1 : ma ρ with
  | stuck => rw [e1] at q; exact q.elim
  | exc x => rw [e1] at q; exact fun cls d H' ex k => q cls d σ H' ex k
  | ok p =>
    obtain ⟨r1, ρ1⟩ := p
    rw [e1] at q
    simp only [Ot.bind] at q
    intro o H1 p1
    refine ⟨ρ1, p1.sim, ?_⟩
    cases e2 : mb ρ1 with
    | stuck => rw [e2] at q; exact q.elim
    | exc x =>
      rw [e2] at q
      exact fun cls d H' ex k => q cls d σ H' ex (p1.keep.trans k fun c z => .inl (p1.sub c z))
    | ok p =>
      obtain ⟨r2, ρ2⟩ := p
      rw [e2] at q
      simp only at q
      intro y H2 p2
      have a1 := RsAt.mid p1.sim p1.at_ p2.mid
      cases r1 <;> try (exact q.elim)
      rename_i i
      cases r2 <;> try (exact q.elim)
      rename_i k
      simp only at q
      cases e3 : lk ρ2 i with
      | none => rw [e3] at q; exact q.elim
      | some vl =>
        rw [e3] at q
        cases vl <;> try (exact q.elim)
        rename_i bx
        simp only at q
        cases e4 : stB bx k x with
        | none => rw [e4] at q; exact q.elim
        | some bz =>
          rw [e4] at q
          obtain ⟨es, _⟩ := a1
          obtain ⟨o', eo, c, u, ec, hl, rs⟩ := p2.sim.rep i _ e3
          rw [es] at eo; cases eo
          subst ec
          have m2 := p1.mid.trans p2.mid
          have rx := RepD.pers (m2.pers S) r
          cases bx with
          | dtt _ => cases k <;> cases e4
          | lst xs =>
            cases k <;> try (cases e4; done)
            rename_i k
            dsimp only [stB] at e4
            cases e5 : ixN xs.length k with
            | none => rw [e5] at e4; cases e4
            | some j =>
              rw [e5] at e4
              cases e4
              obtain ⟨vs, eu, rs⟩ := rs.l
              subst eu
              have ey : y = .int k := by cases (show RepD X.K H2 y (.int k) from p2.at_); rfl
              refine .inl ⟨c, vs, k, j, rfl, ey, hl, by rw [rs.length]; exact e5, ?_⟩
              exact q _ _ (m2.trans (Mid.mut (u' := .lst (vs.set j v)) (by' := .lst (xs.set j x)) p2.sim e3 es hl (RepDs.set rx j rs))).g
          | dct kvs =>
            dsimp only [stB] at e4
            cases e5 : keyOfD k with
            | none => rw [e5] at e4; cases e4
            | some k' =>
              rw [e5] at e4
              simp only at e4
              split at e4
              case isFalse => cases e4
              rename_i hlen
              cases e4
              cases u <;> try (exact rs.elim)
              rename_i kws
              have rk : RepK X.K H2 kws kvs := rs
              have ey := key_rep (.inl (p2.at_ : RepD X.K H2 y k)) e5
              subst ey
              refine .inr ⟨c, _, rfl, DPut.k hl (by rw [rk.length, sizeLine_eq]; omega), ?_⟩
              exact q _ _ (m2.trans (Mid.mut (u' := .dK (putK kws k' v)) (by' := .dct (putD kvs k' x)) p2.sim e3 es hl (rk.put rx))).g
end
/-! ### {} -/
def mDic : M := fun ρ => .ok (.new (.dct []), ρ)
theorem pe_mDic {X : Cx} {W : WX} {pos : Pos} : PE X (.Dict [] [] pos) (tOf X.K X.mg W mDic) := PE.weak pe_dnewK fun σ H Q ⟨ρ, S, q⟩ p hp =>
  q _ _ ((Mid.updN S hp).post ⟨p, .dK [], rfl, upd_same, ⟨rfl, .nil⟩, S.not_ow hp⟩ fun a e => by cases e; exact hp)
end Mp
set_option maxHeartbeats 1000000
/-! Mp18: methods, slices, is, repr. -/
namespace Mp
open PySem PySem.Spec PyProof.Rows L2
/-! ### a method that changes a name's own list -/
abbrev FL := List D → List D → Option (D × List D)
def rOwn (K : PySem.W.Frag) (f : FL) : V → List V → Hp → VK → Prop := fun x vs H Q => ∃ l xv xs ds y ys, x = V.ref l ∧ H l = some (.lst xv) ∧ RepDs K H xv xs ∧ RepDs K H vs ds ∧ f xs ds = some (y, ys) ∧ ∀ v ws, RepD K H v y → RepDs K H ws ys → Q v (upd H l (.lst ws))
def isOwnL (ρ : Env) (i : Nat) : Bool := match lk ρ i with
  | some (.own (.lst _)) => true
  | _ => false
def ownL (ρ : Env) (i : Nat) : Option (List D) := match lk ρ i with
  | some (.own (.lst xs)) => some xs
  | _ => none
theorem ownL_some {ρ : Env} {i : Nat} {xs : List D} (h : ownL ρ i = some xs) : lk ρ i = some (.own (.lst xs)) := by
  unfold ownL at h
  split at h
  · cases h; assumption
  · cases h
def mOwn (f : FL) (a : M) (ms : List M) : M := fun ρ => (a ρ).bind fun p => match p.1 with
  | .var i => match ownL p.2 i with
    | some _ => (mAs ms p.2).bind fun q => match allD q.1, ownL q.2 i with
      | some ds, some xs => match f xs ds with
        | some (y, ys) => .ok (.d y, q.2.set i (some (.own (.lst ys))))
        | none => .stuck
      | _, _ => .stuck
    | none => .stuck
  | _ => .stuck
section
variable {K : PySem.W.Frag} {mg : Str → Option Value} {W : WX} {σ : L2.St} {H : Hp} {Q : VK}
theorem own_at {ρ : Env} {v : V} {i : Nat} {xs : List D} (S : Sim K ρ σ H) (a : RsAt K ρ σ H v (.var i)) (h : ownL ρ i = some xs) : ∃ c vs, v = .ref c ∧ σ[i]? = some (some (.ref c)) ∧ H c = some (.lst vs) ∧ RepDs K H vs xs := by
  have e3 := ownL_some h
  obtain ⟨es, _⟩ := a
  obtain ⟨o', eo, c, u, ec, hl, rs⟩ := S.rep i _ e3
  rw [es] at eo; cases eo
  obtain ⟨vs, eu, rs⟩ := rs.l
  subst eu; subst ec
  exact ⟨c, vs, rfl, es, hl, rs⟩
theorem tOf_own {f : FL} {ma : M} {ms : List M} (h : tOf K mg W (mOwn f ma ms) σ H Q) : tBM K "list" (rOwn K f) (tOf K mg W ma) (tAr K mg W ms) σ H Q := by
  obtain ⟨ρ, S, q⟩ := h
  refine ⟨ρ, S, ?_⟩
  unfold mOwn at q
  cases e1 : ma ρ with
  | stuck => rw [e1] at q; exact q.elim
  | exc x => rw [e1] at q; exact q
  | ok p =>
    obtain ⟨r1, ρ1⟩ := p
    rw [e1] at q
    simp only [Ot.bind] at q
    intro x H1 p1
    cases r1 <;> try (exact q.elim)
    rename_i i
    simp only at q
    cases e2 : ownL ρ1 i with
    | none => rw [e2] at q; exact q.elim
    | some xs0 =>
      rw [e2] at q
      simp only at q
      obtain ⟨c, vs, ex, es, hl, rs⟩ := own_at p1.sim p1.at_ e2
      subst ex
      refine ⟨.inl ⟨rfl, vs, .inl (.inl hl)⟩, ρ1, p1.sim, ?_⟩
      cases e3 : mAs ms ρ1 with
      | stuck => rw [e3] at q; exact q.elim
      | exc z =>
        rw [e3] at q
        exact fun cls d H' ex k => q cls d H' ex (p1.keep.trans k fun c z => .inl (p1.sub c z))
      | ok p =>
        obtain ⟨rr, ρ2⟩ := p
        rw [e3] at q
        simp only at q
        intro us H2 m2 ra nd
        have a1 := RsAt.mid p1.sim p1.at_ m2
        cases e4 : allD rr with
        | none => rw [e4] at q; exact q.elim
        | some ds =>
          cases e5 : ownL ρ2 i with
          | none => rw [e4, e5] at q; exact q.elim
          | some xs =>
            rw [e4, e5] at q
            simp only at q
            cases e6 : f xs ds with
            | none => rw [e6] at q; exact q.elim
            | some z =>
              obtain ⟨y, ys⟩ := z
              rw [e6] at q
              obtain ⟨c', vs', ex, es', hl', rs'⟩ := own_at m2.sim a1 e5
              cases ex
              refine ⟨c, vs', xs, ds, y, ys, rfl, hl', rs', allD_rep ra e4, e6, fun v ws rv rw' => ?_⟩
              have mm := Mid.mut (u' := .lst ws) (by' := .lst ys) m2.sim (ownL_some e5) es' hl' rw'
              exact q _ _ ((p1.mid.trans (m2.trans mm)).post (rv.pers (mm.pers m2.sim)) trivial)
end
def fAppend : FL := fun xs ds => match ds with
  | [y] => if xs.length < sizeLine then some (.none, xs ++ [y]) else none
  | _ => none
def fPop : FL := fun xs ds => match ds with
  | [] => match xs[xs.length - 1]? with
    | some y => some (y, xs.dropLast)
    | none => none
  | _ => none
def fPopAt : FL := fun xs ds => match ds with
  | [.int i] => if smI i then match seqIndex? i xs.length with
      | some k => match xs[k]? with
        | some y => some (y, xs.eraseIdx k)
        | none => none
      | none => none
    else none
  | _ => none
theorem RepDs.dropLast {K : PySem.W.Frag} {H : Hp} : ∀ {vs : List V} {xs : List D}, RepDs K H vs xs → RepDs K H vs.dropLast xs.dropLast
  | _, _, .nil => .nil
  | _, _, .cons r .nil => .nil
  | _, _, .cons r (.cons q t) => .cons r (RepDs.dropLast (.cons q t))
section
variable {X : Cx}
theorem mt_oAppend : MtR X "list.append" (rOwn X.K fAppend) := by
  intro pins s σ H x vs v us Q I rx rv ⟨l, xv, xs, ds, y, ys, ex, hl, rs, rd, e, q⟩
  unfold fAppend at e
  split at e
  case h_2 => cases e
  split at e
  case isFalse => cases e
  rename_i hlen
  cases e
  cases rd with
  | cons r t =>
    cases t
    exact mt_append pins s σ H x _ v us Q I rx rv ⟨l, xv, _, ex, rfl, hl, by rw [rs.length]; exact hlen, q .non _ .none (rs.append (.cons r .nil))⟩
theorem mt_oPop : MtR X "list.pop" (rOwn X.K fPop) := by
  intro pins s σ H x vs v us Q I rx rv ⟨l, xv, xs, ds, y, ys, ex, hl, rs, rd, e, q⟩
  unfold fPop at e
  split at e
  case h_2 => cases e
  split at e
  case h_2 => cases e
  rename_i z hz
  cases e
  cases rd
  obtain ⟨w, ew, rw'⟩ := rs.get hz
  exact mt_pop pins s σ H x _ v us Q I rx rv ⟨l, xv, w, ex, rfl, hl, by rw [rs.length]; exact ew, q w _ rw' rs.dropLast⟩
theorem mt_oPopAt : MtR X "list.pop" (rOwn X.K fPopAt) := by
  intro pins s σ H x vs v us Q I rx rv ⟨l, xv, xs, ds, y, ys, ex, hl, rs, rd, e, q⟩
  unfold fPopAt at e
  split at e
  case h_2 => cases e
  rename_i i
  split at e
  case isFalse => cases e
  rename_i hi
  split at e
  case h_2 => cases e
  rename_i k hk
  split at e
  case h_2 => cases e
  rename_i z hz
  cases e
  cases rd with
  | cons r t =>
    cases t
    cases r
    obtain ⟨w, ew, rw'⟩ := rs.get hz
    have := smI_ok hi
    exact mt_popAt pins s σ H x _ v us Q I rx rv ⟨l, xv, i, k, w, ex, rfl, hl, by omega, by omega, by rw [rs.length]; exact hk, ew, q w _ rw' (rs.eraseIdx k)⟩
end
section
variable {X : Cx} {W : WX} {o e : Expr} {es : List Expr} {name : Str} {apos cpos : Pos} {id : String} {f : FL} {ma : M} {ms : List M}
theorem pe_mOwn (slot : Slot "list" name id) (hty : typeOf (.builtin id) = pure (.type "method_descriptor")) (hm : MtR X id (rOwn X.K f)) (ho : PE X o (tOf X.K X.mg W ma)) (ha : PA X (e :: es) (tAr X.K X.mg W ms))
    (hbase : attributeBase o name X.env (eval o X.env) = eval o X.env)
    (hfew : ((backTo cpos (starEach (e :: es) X.env)).all (fun x => !x.1) && (backToKw cpos (keywordEach [] X.env)).all (fun x => x.1.isSome)
      && decide ((e :: es).length + ([] : List Keyword).length + (if ([] : List Keyword).isEmpty then 0 else 1) < 30)) = true)
    (hline : (apos.endLine == cpos.line) = true) (hs : starEach (e :: es) X.env = (false, eval e X.env) :: starEach es X.env) (hplain : (backTo cpos (starEach es X.env)).any (·.1) = false) :
    PE X (.Call (.Attribute o name apos) (e :: es) [] cpos) (tOf X.K X.mg W (mOwn f ma ms)) :=
  PE.weak (pe_bm PySem.F.plainAttrs_list slot hty hm ho ha hbase hfew hline hs hplain) fun _ _ _ => tOf_own
theorem pe_mOwn0 (slot : Slot "list" name id) (hty : typeOf (.builtin id) = pure (.type "method_descriptor")) (hm : MtR X id (rOwn X.K f)) (ho : PE X o (tOf X.K X.mg W ma))
    (hbase : attributeBase o name X.env (eval o X.env) = eval o X.env) (hline : (apos.endLine == cpos.line) = true) :
    PE X (.Call (.Attribute o name apos) [] [] cpos) (tOf X.K X.mg W (mOwn f ma [])) := by
  refine PE.weak (pe_bm0 PySem.F.plainAttrs_list slot hty hm ho hbase hline) fun σ H Q h => ?_
  obtain ⟨ρ, S, q⟩ := tOf_own h
  exact ⟨ρ, S, q.imp fun x H1 ⟨ty, ρ1, S1, q1⟩ => ⟨ty, q1 [] H1 (Mid.refl S1) .nil trivial⟩⟩
end
end Mp
set_option maxHeartbeats 1000000
/-! Mp19: repr, is, index, slices, len, sorted of a dict, extend. -/
namespace Mp
open PySem PySem.Spec PyProof.Rows L2
/-! ### repr -/
def gRepr : List D → Option Res
  | [.list xs] => if PyData.showable (.list xs) && !PyData.hasDict (.list xs) && decide (PyData.depth (.list xs) < 200) && decide ((PyData.shown (.list xs)).length ≤ sizeLine) then some (.d (.str (PyData.shown (.list xs)))) else none
  | [.tuple xs] => if PyData.showable (.tuple xs) && !PyData.hasDict (.tuple xs) && decide (PyData.depth (.tuple xs) < 200) && decide ((PyData.shown (.tuple xs)).length ≤ sizeLine) then some (.d (.str (PyData.shown (.tuple xs)))) else none
  | _ => none
section
variable {X : Cx}
theorem repr_ref (rm : Rm X.A) {pins : List (Addr × Obj)} {s : Shared} {σ : L2.St} {H : Hp} {Q : VK} {a : Addr} {d : D} {v : V} (I : Inv X pins σ H s) (ev : v = .ref a) (px : RepP X.K H v d)
    (h : (PyData.showable d && !PyData.hasDict d && decide (PyData.depth d < 200) && decide ((PyData.shown d).length ≤ sizeLine)) = true) (q : ∀ v, RepD X.K H v (.str (PyData.shown d)) → Q v H) :
    wpAny (model X.prog X.w) X.A (call (.builtin "repr") [.ref a]) (EP X pins σ Q) X.xe s := by
  simp only [Bool.and_eq_true, Bool.not_eq_true', decide_eq_true_eq] at h
  obtain ⟨⟨⟨h1, h2⟩, h3⟩, h4⟩ := h
  subst ev
  obtain ⟨as, r⟩ := px.reads (u := .ref a) I.hok I.kIn rfl
  have hu : X.A.units + (d.depth + 1) < cLine := by have := rm.un; omega
  refine repr_of_reads' r h1 (PyData.noDict_hsm h2) rm.gd hu (fun _ _ e => e) (fun h' u tk k => ?_) (hsz := h4)
  exact ⟨.str _, H, I.kept (t' := tk) k, ⟨u, rfl⟩, q _ (.str _)⟩
theorem cg_repr (rm : Rm X.A) : CallR X (.builtin "repr") (rC X.K gRepr) := by
  intro pins s σ H xs us Q I r ⟨ds', res, rp, eg, q⟩
  unfold gRepr at eg
  split at eg
  · split at eg
    case isFalse => cases eg
    rename_i h
    cases eg
    cases rp with
    | cons px t =>
      cases t
      obtain ⟨u, rfl, rx⟩ := vals1' r
      obtain ⟨a, vs, rfl, _, _⟩ := px.sq
      cases rx
      exact repr_ref rm I rfl px h q
  · split at eg
    case isFalse => cases eg
    rename_i h
    cases eg
    cases rp with
    | cons px t =>
      cases t
      obtain ⟨u, rfl, rx⟩ := vals1' r
      obtain ⟨a, vs, rfl, _, _⟩ := px.tp
      cases rx
      exact repr_ref rm I rfl px h q
  · cases eg
/-! ### is -/
def isNone : D → Bool
  | .none => true
  | _ => false
def gIs : D → D → Option Res
  | x, .none => some (.d (.bool (isNone x)))
  | .bool a, .bool b => some (.d (.bool (a == b)))
  | _, _ => none
def gIsNot : D → D → Option Res
  | x, .none => some (.d (.bool (!isNone x)))
  | .bool a, .bool b => some (.d (.bool (!(a == b))))
  | _, _ => none
theorem RepP.isNone {K : PySem.W.Frag} {H : Hp} {v : V} {x : D} (h : RepP K H v x) : decide (v = .non) = isNone x := by
  rcases h with h | ⟨a, o, b, e, hl, rs, ed, bk⟩
  · cases h <;> rfl
  · subst e; subst ed
    cases b <;> rfl
theorem og_is : OpR X (compareOp .Is) (rD2 X.K gIs) := by
  intro pins s σ H x y v u Q I rx ry ⟨dx, dy, res, px, py, eg, q⟩
  cases dy with
  | none =>
    cases dx <;> cases eg <;>
    · have e2 := py.n
      subst e2
      exact op_isN pins s σ H _ _ v u Q I rx ry ⟨rfl, q _ (by rw [px.isNone]; exact .bool _)⟩
  | bool b =>
    have e2 := py.b
    subst e2
    cases dx <;> try (cases eg; done)
    cases eg
    have e1 := px.b
    subst e1
    cases rx; cases ry
    exact is_bool ⟨.bl _, H, I, rfl, q _ (.bool _)⟩
  | _ => cases dx <;> cases eg
theorem og_isNot : OpR X (compareOp .IsNot) (rD2 X.K gIsNot) := by
  intro pins s σ H x y v u Q I rx ry ⟨dx, dy, res, px, py, eg, q⟩
  cases dy with
  | none =>
    cases dx <;> cases eg <;>
    · have e2 := py.n
      subst e2
      exact op_notN pins s σ H _ _ v u Q I rx ry ⟨rfl, q _ (by rw [px.isNone]; exact .bool _)⟩
  | bool b =>
    have e2 := py.b
    subst e2
    cases dx <;> try (cases eg; done)
    cases eg
    have e1 := px.b
    subst e1
    cases rx; cases ry
    exact isnot_bool ⟨.bl _, H, I, rfl, q _ (.bool _)⟩
  | _ => cases dx <;> cases eg
end
/-! ### len -/
def lenR (ρ : Env) : Rs → Option Nat
  | .scr xs => some xs.length
  | r => match pk ρ r with
    | some (.list xs) => some xs.length
    | some (.tuple xs) => some xs.length
    | some (.str x) => if x.length ≤ sizeLine then some x.length else none
    | _ => none
def mLen (m : M) : M := fun ρ => (m ρ).bind fun p => match lenR p.2 p.1 with
  | some n => .ok (.d (.int n), p.2)
  | none => .stuck
theorem lenR_ok {K : PySem.W.Frag} {ρ : Env} {σ : L2.St} {H : Hp} {v : V} {r : Rs} {n : Nat} (S : Sim K ρ σ H) (a : RsAt K ρ σ H v r) (h : lenR ρ r = some n) : LenV K v H n := by
  have fin : ∀ x, pk ρ r = some x → (match (some x : Option D) with
    | some (.list xs) => some xs.length
    | some (.tuple xs) => some xs.length
    | some (.str x) => if x.length ≤ sizeLine then some x.length else none
    | _ => none) = some n → LenV K v H n := fun x e h => by
    have px := pk_rep S a e
    cases x <;> try (cases h; done)
    · rename_i y
      simp only at h
      split at h
      case isFalse => cases h
      cases h
      rw [px.s]
      exact ⟨by assumption, rfl⟩
    · cases h
      obtain ⟨p, vs, rfl, hq, rs⟩ := px.sq
      exact .inl ⟨vs, hq, rs.length.symm⟩
    · cases h
      obtain ⟨p, vs, rfl, hq, rs⟩ := px.tp
      exact .inr ⟨vs, hq, rs.length.symm⟩
  unfold lenR at h
  cases r with
  | scr xs =>
    cases h
    obtain ⟨p, vs, rfl, hq, rs⟩ := a
    exact .inl ⟨vs, hq.sq, rs.length.symm⟩
  | d x => exact fin x rfl h
  | new b =>
    cases e : pk ρ (.new b) with
    | none => simp only [e] at h; cases h
    | some x => simp only [e] at h; exact fin x e h
  | var i =>
    cases e : pk ρ (.var i) with
    | none => simp only [e] at h; cases h
    | some x => simp only [e] at h; exact fin x e h
section
variable {X : Cx} {W : WX} {e o : Expr} {pos p apos : Pos} {m mo : M}
theorem pe_mLen (hg : Gl X "len") (hm : X.mg "len" = none) (he : PE X e (tOf X.K X.mg W m)) (hs : starEach [e] X.env = (false, eval e X.env) :: starEach [] X.env) (hpl : (backTo pos (starEach [] X.env)).any (·.1) = false) :
    PE X (.Call (.Name "len" p) [e] [] pos) (tOf X.K X.mg W (mLen m)) := by
  refine PE.weak (pe_callB call_len hg hm (by decide +kernel) (pa_cons he pa_nil hs) (by decide) (by decide) hs hpl) fun σ H Q ⟨ρ, S, q⟩ => ⟨ρ, S, ?_⟩
  unfold mLen at q
  cases e1 : m ρ with
  | stuck => rw [e1] at q; exact q.elim
  | exc x => rw [e1] at q; exact q
  | ok p =>
    obtain ⟨r, ρ1⟩ := p
    rw [e1] at q
    simp only [Ot.bind] at q
    intro v H1 p1
    cases e2 : lenR ρ1 r with
    | none => rw [e2] at q; exact q.elim
    | some n =>
      rw [e2] at q
      exact ⟨v, n, rfl, lenR_ok p1.sim p1.at_ e2, q _ H1 (p1.mid.post (.int _) trivial)⟩
end
/-! ### l.index(x) -/
section
variable {K : PySem.W.Frag} {H : Hp}
mutual
theorem RepD.dp : ∀ {v : V} {x : D}, RepD K H v x → PyData.canLay0 x = true → Dp K H v x
  | _, _, .none, _ => .non
  | _, _, .bool b, _ => .bl b
  | _, _, .int i, _ => .int i
  | _, _, .str x, _ => .str x
  | _, _, .tup hq rs, h => .tup hq (RepDs.dp rs (by simpa [PyData.canLay0] using h))
  | _, _, .lst hq rs, h => .lst hq.sq (RepDs.dp rs (by simpa [PyData.canLay0] using h))
  | _, _, .dct _ _ _, h => by simp [PyData.canLay0] at h
  | _, _, .dtt _ _ _ _, h => by simp [PyData.canLay0] at h
theorem RepDs.dp : ∀ {vs : List V} {xs : List D}, RepDs K H vs xs → PyData.canLayAll0 xs = true → DpAll K H vs xs
  | _, _, .nil, _ => .nil
  | _, _, .cons r t, h => by
    simp only [PyData.canLayAll0, Bool.and_eq_true] at h
    exact .cons (RepD.dp r h.1) (RepDs.dp t h.2)
end
theorem RepP.dp {v : V} {x : D} (h : RepP K H v x) (k : PyData.canLay0 x = true) : Dp K H v x := by
  rcases h with h | ⟨a, o, b, e, hl, rs, ed, bk⟩
  · exact h.dp k
  · subst e; subst ed
    cases b <;> try (simp [Bx.x, PyData.canLay0] at k; done)
    obtain ⟨vs, eo, rs⟩ := rs.l
    subst eo
    exact .lst (.inl (.inl hl)) (rs.dp (by simpa [Bx.x, PyData.canLay0] using k))
end
/-- the first place of one that is the same -/
def idxD (ds : List D) (d : D) : Option Nat := ds.findIdx? fun z => PyData.eqv z d
def isL (ρ : Env) (r : Rs) : Bool := match pk ρ r with
  | some (.list _) => true
  | _ => false
def idxR (ρ : Env) (r : Rs) (k : Rs) : Option Nat := match pk ρ r, pk ρ k with
  | some (.list ds), some d => if SeqAt.shaped (.list ds) && SeqAt.shaped d then idxD ds d else none
  | _, _ => none
def mIdx (a b : M) : M := fun ρ => (a ρ).bind fun p => if isL p.2 p.1 then (b p.2).bind fun q => match idxR q.2 p.1 q.1 with
    | some j => .ok (.d (.int j), q.2)
    | none => .stuck
  else .stuck
section
variable {X : Cx} {W : WX} {e o : Expr} {pos p apos : Pos} {m mo : M}
theorem pe_mIdx (rm : Rm X.A) (ho : PE X o (tOf X.K X.mg W mo)) (he : PE X e (tOf X.K X.mg W m)) (hbase : attributeBase o "index" X.env (eval o X.env) = eval o X.env)
    (hfew : ((backTo pos (starEach [e] X.env)).all (fun x => !x.1) && (backToKw pos (keywordEach [] X.env)).all (fun x => x.1.isSome)
      && decide (([e] : List Expr).length + ([] : List Keyword).length + (if ([] : List Keyword).isEmpty then 0 else 1) < 30)) = true)
    (hline : (apos.endLine == pos.line) = true) (hs : starEach [e] X.env = (false, eval e X.env) :: starEach [] X.env) (hpl : (backTo pos (starEach [] X.env)).any (·.1) = false) :
    PE X (.Call (.Attribute o "index" apos) [e] [] pos) (tOf X.K X.mg W (mIdx mo m)) := by
  refine PE.weak (pe_bm PySem.F.plainAttrs_list PySem.F.slot_list_index PySem.F.type_list_index (mt_indexD (by have := rm.un; omega)) ho (pa_cons he pa_nil hs) hbase hfew hline hs hpl) fun σ H Q ⟨ρ, S, q⟩ => ⟨ρ, S, ?_⟩
  unfold mIdx at q
  cases e1 : mo ρ with
  | stuck => rw [e1] at q; exact q.elim
  | exc x => rw [e1] at q; exact q
  | ok p =>
    obtain ⟨r1, ρ1⟩ := p
    rw [e1] at q
    simp only [Ot.bind] at q
    intro x H1 p1
    split at q
    case isFalse => exact q.elim
    rename_i hl
    have isl : ∃ a vs, x = .ref a ∧ SqL X.K H1 a vs := by
      unfold isL at hl
      cases k1 : pk ρ1 r1 with
      | none => rw [k1] at hl; cases hl
      | some dx =>
        rw [k1] at hl
        cases dx <;> try (cases hl; done)
        obtain ⟨a, vs, e, hq, _⟩ := (pk_rep p1.sim p1.at_ k1).sq
        exact ⟨a, vs, e, hq⟩
    obtain ⟨a, vs, ex, hq⟩ := isl
    subst ex
    refine ⟨.inl ⟨rfl, vs, hq⟩, ρ1, p1.sim, ?_⟩
    cases e2 : m ρ1 with
    | stuck => rw [e2] at q; exact q.elim
    | exc z =>
      rw [e2] at q
      exact fun cls d H' ex k => q cls d H' ex (p1.keep.trans k fun c z => .inl (p1.sub c z))
    | ok p =>
      obtain ⟨r2, ρ2⟩ := p
      rw [e2] at q
      simp only at q
      intro y H2 p2
      have a1 := RsAt.mid p1.sim p1.at_ p2.mid
      cases e3 : idxR ρ2 r1 r2 with
      | none => rw [e3] at q; exact q.elim
      | some j =>
        rw [e3] at q
        unfold idxR at e3
        cases k1 : pk ρ2 r1 with
        | none => rw [k1] at e3; cases e3
        | some dx =>
          rw [k1] at e3
          cases dx <;> try (cases e3; done)
          rename_i ds
          cases k2 : pk ρ2 r2 with
          | none => rw [k2] at e3; cases e3
          | some d =>
            rw [k2] at e3
            simp only at e3
            split at e3
            case isFalse => cases e3
            rename_i hsh
            obtain ⟨s1, s2⟩ := (Bool.and_eq_true _ _).mp hsh
            unfold idxD at e3
            obtain ⟨hj, h1, h2⟩ := List.findIdx?_eq_some_iff_getElem.mp e3
            refine ⟨a, y, d, ds, j, ds[j], rfl, rfl, (pk_rep p2.sim a1 k1).dp (SeqAt.canLay_of_shaped s1), (pk_rep p2.sim p2.at_ k2).dp (SeqAt.canLay_of_shaped s2), s1, s2, List.getElem?_eq_getElem hj, h1, fun m z' hm hz => ?_, q _ H2 ((p1.mid.trans p2.mid).post (.int _) trivial)⟩
            obtain ⟨hm', e⟩ := List.getElem?_eq_some_iff.mp hz
            have := h2 m hm
            rw [e] at this
            simpa using this
end
end Mp
set_option maxHeartbeats 1000000
/-! Mp20: slices, extend, sorted of a dict, several names at once. -/
namespace Mp
open PySem PySem.Spec PyProof.Rows L2
def cutD (xs : List D) (lo hi : Option Int) : List D := (xs.drop (HT.sIx xs.length 0 lo)).take (HT.sIx xs.length xs.length hi - HT.sIx xs.length 0 lo)
theorem cut_rep {K : PySem.W.Frag} {H : Hp} {vs : List V} {xs : List D} (r : RepDs K H vs xs) (lo hi : Option Int) : RepDs K H (cutV vs lo hi) (cutD xs lo hi) := by
  unfold cutV cutD
  rw [r.length]
  exact (r.drop _).take _
def slR (ρ : Env) (r : Rs) (lo hi : Option Int) : Option Rs := match sq ρ r with
  | some (.inl xs) => some (.new (.lst (cutD xs lo hi)))
  | some (.inr xs) => some (.d (.tuple (cutD xs lo hi)))
  | none => none
def mPa : Option M → Env → Ot (Option Int × Env)
  | none, ρ => .ok (none, ρ)
  | some m, ρ => (m ρ).bind fun p => match p.1 with
    | .d (.int i) => .ok (some i, p.2)
    | _ => .stuck
def mSl (a : M) (lo hi : Option M) : M := fun ρ => (a ρ).bind fun p => (mPa lo p.2).bind fun q => (mPa hi q.2).bind fun t => match slR t.2 p.1 q.1 t.1 with
  | some r => .ok (r, t.2)
  | none => .stuck
def tPa (K : PySem.W.Frag) (mg : Str → Option Value) (W : WX) : Option M → TO
  | none => tNoPart
  | some m => tPart (tOf K mg W m)
section
variable {K : PySem.W.Frag} {mg : Str → Option Value} {W : WX} {σ : L2.St} {H H0 : Hp} {Q : VK}
theorem tPa_of {lo : Option M} {ρ0 ρ : Env} {k : Option Int × Env → Ot (Rs × Env)} {Q0 : VK} (S : Sim K ρ σ H) (m0 : Mid K ρ0 σ H0 ρ H) (q : EOut K mg W ρ0 σ H0 Q0 ((mPa lo ρ).bind k)) {Q : Option Int → Hp → Prop}
    (g : ∀ o ρ1 H1, Mid K ρ σ H ρ1 H1 → EOut K mg W ρ0 σ H0 Q0 (k (o, ρ1)) → Q o H1) : tPa K mg W lo σ H Q := by
  cases lo with
  | none => exact g none ρ H (Mid.refl S) q
  | some m =>
    refine ⟨ρ, S, ?_⟩
    dsimp only [mPa] at q
    cases e1 : m ρ with
    | stuck => rw [e1] at q; exact q.elim
    | exc x =>
      rw [e1] at q
      exact fun cls d H' ex k => q cls d H' ex (m0.keep.trans k fun c z => .inl (m0.sub c z))
    | ok p =>
      obtain ⟨r, ρ1⟩ := p
      rw [e1] at q
      intro v H1 p1
      cases r <;> try (exact q.elim)
      rename_i x
      cases x <;> try (exact q.elim)
      rename_i i
      cases (show RepD K H1 v (.int i) from p1.at_)
      exact ⟨i, rfl, g (some i) ρ1 H1 p1.mid q⟩
end
section
variable {X : Cx} {W : WX} {e o : Expr} {pos p2 apos : Pos} {lo hi : Option Expr} {m : M} {ml mh : Option M}
theorem pe_mSl (he : PE X e (tOf X.K X.mg W m)) (hl : PO X lo (tPa X.K X.mg W ml)) (hu : PO X hi (tPa X.K X.mg W mh)) : PE X (.Subscript e (.Slice lo hi none p2) pos) (tOf X.K X.mg W (mSl m ml mh)) := by
  refine PE.weak (pe_slice (SlR.or sl_list sl_tupA) he hl hu) fun σ H Q ⟨ρ, S, q⟩ => ⟨ρ, S, ?_⟩
  unfold mSl at q
  cases e1 : m ρ with
  | stuck => rw [e1] at q; exact q.elim
  | exc x => rw [e1] at q; exact q
  | ok p =>
    obtain ⟨r1, ρ1⟩ := p
    rw [e1] at q
    intro x H1 p1
    refine tPa_of p1.sim p1.mid q fun i ρ2 H2 m2 q => tPa_of m2.sim (p1.mid.trans m2) q fun j ρ3 H3 m3 q => ?_
    have a1 := RsAt.mid p1.sim p1.at_ (m2.trans m3)
    have m := p1.mid.trans (m2.trans m3)
    simp only at q
    unfold slR at q
    cases k1 : sq ρ3 r1 with
    | none => rw [k1] at q; exact q.elim
    | some xs =>
      rw [k1] at q
      cases xs with
      | inl xs =>
        obtain ⟨c, vs, e, hs, rs⟩ := sq_l m.sim a1 k1
        refine .inl ⟨c, vs, e, hs, fun p hp => ?_⟩
        refine q _ _ ((m.trans (Mid.updN m.sim hp)).post ⟨p, .lst _, rfl, upd_same, RepDs.pers (pers_upd hp) (cut_rep rs i j), m.sim.not_ow hp⟩ fun a e => ?_)
        cases e
        exact m.grow _ hp
      | inr xs =>
        obtain ⟨c, vs, e, hs, rs⟩ := sq_r m.sim a1 k1
        refine .inr ⟨c, vs, e, hs, fun hw => ?_, fun _ p hp => ?_⟩
        · have ec : cutD xs i j = xs := by
            unfold cutD
            rw [rs.length] at hw
            rw [hw.1, hw.2, Nat.sub_zero, List.drop_zero, List.take_length]
          simp only at q
          rw [ec] at q
          subst e
          exact q _ _ (m.post (.tup hs rs) trivial)
        · exact q _ _ ((m.trans (Mid.updN m.sim hp)).post (.tup (.inl (.inl upd_same)) (RepDs.pers (pers_upd hp) (cut_rep rs i j))) trivial)
theorem po_mnone : PO X none (tPa X.K X.mg W none) := po_none
theorem po_msome (he : PE X e (tOf X.K X.mg W m)) : PO X (some e) (tPa X.K X.mg W (some m)) := po_some he
end
/-! ### l.extend(m) -/
/-- the list that is added: a new one, another name's -/
def extR (ρ : Env) (i : Nat) : Rs → Option (List D)
  | .new (.lst zs) => some zs
  | .var j => if i = j then none else ownL ρ j
  | _ => none
def mExt (a b : M) : M := fun ρ => (a ρ).bind fun p => match p.1 with
  | .var i => match ownL p.2 i with
    | some _ => (b p.2).bind fun q => match extR q.2 i q.1, ownL q.2 i with
      | some zs, some xs => if xs.length + zs.length ≤ sizeLine then .ok (.d .none, q.2.set i (some (.own (.lst (xs ++ zs))))) else .stuck
      | _, _ => .stuck
    | none => .stuck
  | _ => .stuck
section
variable {X : Cx} {W : WX} {e o : Expr} {pos p apos : Pos} {m mo : M}
theorem pe_mExt (ho : PE X o (tOf X.K X.mg W mo)) (he : PE X e (tOf X.K X.mg W m)) (hbase : attributeBase o "extend" X.env (eval o X.env) = eval o X.env)
    (hfew : ((backTo pos (starEach [e] X.env)).all (fun x => !x.1) && (backToKw pos (keywordEach [] X.env)).all (fun x => x.1.isSome)
      && decide (([e] : List Expr).length + ([] : List Keyword).length + (if ([] : List Keyword).isEmpty then 0 else 1) < 30)) = true)
    (hline : (apos.endLine == pos.line) = true) (hs : starEach [e] X.env = (false, eval e X.env) :: starEach [] X.env) (hpl : (backTo pos (starEach [] X.env)).any (·.1) = false) :
    PE X (.Call (.Attribute o "extend" apos) [e] [] pos) (tOf X.K X.mg W (mExt mo m)) := by
  refine PE.weak (pe_bm PySem.F.plainAttrs_list PySem.F.slot_list_extend PySem.F.type_list_extend mt_extend ho (pa_cons he pa_nil hs) hbase hfew hline hs hpl) fun σ H Q ⟨ρ, S, q⟩ => ⟨ρ, S, ?_⟩
  unfold mExt at q
  cases e1 : mo ρ with
  | stuck => rw [e1] at q; exact q.elim
  | exc x => rw [e1] at q; exact q
  | ok p =>
    obtain ⟨r1, ρ1⟩ := p
    rw [e1] at q
    simp only [Ot.bind] at q
    intro x H1 p1
    cases r1 <;> try (exact q.elim)
    rename_i i
    simp only at q
    cases e2 : ownL ρ1 i with
    | none => rw [e2] at q; exact q.elim
    | some xs0 =>
      rw [e2] at q
      simp only at q
      obtain ⟨c, vs, ex, es, hl, rs⟩ := own_at p1.sim p1.at_ e2
      subst ex
      refine ⟨.inl ⟨rfl, vs, .inl (.inl hl)⟩, ρ1, p1.sim, ?_⟩
      cases e3 : m ρ1 with
      | stuck => rw [e3] at q; exact q.elim
      | exc z =>
        rw [e3] at q
        exact fun cls d H' ex k => q cls d H' ex (p1.keep.trans k fun c z => .inl (p1.sub c z))
      | ok p =>
        obtain ⟨r2, ρ2⟩ := p
        rw [e3] at q
        simp only at q
        intro y H2 p2
        have a1 := RsAt.mid p1.sim p1.at_ p2.mid
        cases e4 : extR ρ2 i r2 with
        | none => rw [e4] at q; exact q.elim
        | some zs =>
          cases e5 : ownL ρ2 i with
          | none => rw [e4, e5] at q; exact q.elim
          | some xs =>
            rw [e4, e5] at q
            simp only at q
            split at q
            case isFalse => exact q.elim
            rename_i hz
            obtain ⟨c', vs', ex, es', hl', rs'⟩ := own_at p2.sim a1 e5
            cases ex
            have arg : ∃ b zv, y = .ref b ∧ H2 b = some (.lst zv) ∧ RepDs X.K H2 zv zs := by
              cases r2 with
              | d _ => cases e4
              | scr _ => cases e4
              | new b =>
                cases b <;> try (cases e4; done)
                cases e4
                obtain ⟨a, o, ey, hb, rb, _⟩ := p2.at_
                obtain ⟨zv, eo, rb⟩ := rb.l
                subst eo
                exact ⟨a, zv, ey, hb, rb⟩
              | var j =>
                dsimp only [extR] at e4
                split at e4
                · cases e4
                · obtain ⟨b, zv, ey, _, hb, rb⟩ := own_at p2.sim p2.at_ e4
                  exact ⟨b, zv, ey, hb, rb⟩
            obtain ⟨b, zv, ey, hb, rb⟩ := arg
            subst ey
            refine ⟨c, b, vs', zv, rfl, rfl, hl', hb, by rw [rs'.length, rb.length]; exact hz, ?_⟩
            have mm := Mid.mut (u' := .lst (vs' ++ zv)) (by' := .lst (xs ++ zs)) p2.sim (ownL_some e5) es' hl' (rs'.append rb)
            exact q _ _ ((p1.mid.trans (p2.mid.trans mm)).post .none trivial)
end
/-! ### sorted, also of a dict with ints as keys -/
def keysI : List (Key × D) → Option (List Int)
  | [] => some []
  | (.inl i, _) :: r => match keysI r with
    | some is => some (i :: is)
    | none => none
  | _ :: _ => none
theorem keysI_some : ∀ {kvs : List (Key × D)} {ks : List Int}, keysI kvs = some ks → kvs.map Prod.fst = ks.map Sum.inl
  | [], _, h => by cases h; rfl
  | (.inl i, d) :: r, ks, h => by
    unfold keysI at h
    cases e : keysI r with
    | none => rw [e] at h; cases h
    | some is =>
      rw [e] at h
      cases h
      rw [List.map_cons, keysI_some e]
      rfl
  | (.inr i, d) :: r, ks, h => by cases h
def gSortedA : List D → Option Res
  | [.dict es] => match unK es with
    | some kvs => match keysI kvs with
      | some ks => if ks.length < 64 then some (.lst (isort (ks.map .int))) else none
      | none => none
    | none => none
  | ds => gSorted ds
theorem perm_isort {ys ks : List Int} (pm : ys.Perm ks) (pw : ys.Pairwise (· ≤ ·)) : ys.map PyData.int = isort (ks.map .int) := by
  have e1 : isort (ks.map PyData.int) = (ks.mergeSort fun a b => decide (a ≤ b)).map PyData.int := by
    rw [isort_eq, List.map_mergeSort (s := leD)]
    intro a _ b _
    exact (leD_int a b).symm
  rw [e1]
  congr 1
  refine List.Perm.eq_of_pairwise (le := (· ≤ ·)) (fun a b _ _ h1 h2 => by omega) pw ?_ (pm.trans (List.mergeSort_perm _ _).symm)
  have := List.pairwise_mergeSort (le := fun a b : Int => decide (a ≤ b)) (fun a b c h1 h2 => by simp only [decide_eq_true_eq] at h1 h2 ⊢; omega) (fun a b => by simp only [Bool.or_eq_true, decide_eq_true_eq]; omega) ks
  exact this.imp fun h => by simpa using h
section
variable {X : Cx}
theorem cg_sortedA (rm : Rm X.A) (hc : X.calm = true) : CallR X (.builtin "sorted") (rC X.K gSortedA) := by
  intro pins s σ H xs us Q I r ⟨ds', res, rp, eg, q⟩
  unfold gSortedA at eg
  split at eg
  · rename_i es
    cases e1 : unK es with
    | none => rw [e1] at eg; cases eg
    | some kvs =>
      rw [e1] at eg
      simp only at eg
      cases e2 : keysI kvs with
      | none => rw [e2] at eg; cases eg
      | some ks =>
        rw [e2] at eg
        simp only at eg
        split at eg
        case isFalse => cases eg
        rename_i hl
        cases eg
        cases rp with
        | cons px t =>
          cases t
          obtain ⟨a, kws, ex, hd, rk⟩ := px.dk e1
          subst ex
          refine call_sortedDI hc pins s σ H _ us Q I r ⟨a, kws, ks, rfl, hd, rk.1.trans (keysI_some e2), hl, fun ys p pm pw hp => ?_⟩
          refine q p _ hp ?_
          rw [← perm_isort pm pw]
          exact ints_reps ys
  · exact cg_sorted rm pins s σ H xs us Q I r ⟨_, res, rp, eg, q⟩
end
end Mp
set_option maxHeartbeats 1000000
/-! Mp21: several names at once. -/
namespace Mp
open PySem PySem.Spec PyProof.Rows L2
/-- another name's list is known from now on -/
def mFz (m : M) : M := fun ρ => (m ρ).bind fun p => match p.1 with
  | .var i => match fz (.var i) p.2 with
    | some (x, ρ2) => .ok (.d x, ρ2)
    | none => .stuck
  | r => .ok (r, p.2)
section
variable {X : Cx} {W : WX} {e : Expr}
theorem pe_mFz {m : M} (h : PE X e (tOf X.K X.mg W m)) : PE X e (tOf X.K X.mg W (mFz m)) := by
  refine PE.ghost h fun σ H Q ⟨ρ, S, q⟩ => ?_
  unfold mFz at q
  cases e1 : m ρ with
  | stuck => rw [e1] at q; exact q.elim
  | exc x =>
    rw [e1] at q
    exact ⟨fun _ _ => False, ⟨ρ, S, by rw [e1]; exact q⟩, fun _ _ _ _ _ _ _ z => z.elim⟩
  | ok p =>
    obtain ⟨r, ρ1⟩ := p
    rw [e1] at q
    simp only [Ot.bind] at q
    have keep : (∀ v H', EPost X.K ρ σ H ρ1 H' v r → Q v H') → ∃ Q1 : VK, tOf X.K X.mg W m σ H Q1 ∧ ∀ pins v u H1 s1, Inv X pins σ H1 s1 → RelV v u → Q1 v H1 → EP X pins σ Q u s1 := fun q =>
      ⟨Q, ⟨ρ, S, by rw [e1]; exact q⟩, fun pins v u H1 s1 I1 r1 z => ⟨v, H1, I1, r1, z⟩⟩
    cases r with
    | d x => exact keep q
    | new b => exact keep q
    | scr xs => exact keep q
    | var i =>
      simp only at q
      cases e2 : fz (.var i) ρ1 with
      | none => rw [e2] at q; exact q.elim
      | some p2 =>
        obtain ⟨x, ρ2⟩ := p2
        rw [e2] at q
        refine ⟨fun v H1 => EPost X.K ρ σ H ρ1 H1 v (.var i), ⟨ρ, S, by rw [e1]; exact fun v H' p => p⟩, fun pins v u H1 s1 I1 r1 p => ?_⟩
        obtain ⟨H', I', p'⟩ := freeze rfl I1 p e2
        exact ⟨v, H', I', r1, q v H' p'⟩
end
def asN : Rs → Option Vl
  | .d x => some (.d x)
  | .new b => some (.own b)
  | .scr xs => some (.scr xs)
  | .var _ => none
def parE (io : List Nat) : Env → List Nat → List Rs → Option Env
  | ρ, [], [] => some ρ
  | ρ, i :: is, r :: rs => if io.contains i then none else match asN r with
    | some vl => parE io (ρ.set i (some vl)) is rs
    | none => none
  | _, _, _ => none
def stV : L2.St → List Nat → List V → L2.St
  | σ, i :: is, v :: vs => stV (σ.set i (some v)) is vs
  | σ, _, _ => σ
def mPar (io : List Nat) (is : List Nat) (ms : List M) : MS := fun ρ => (mAs ms ρ).bind fun p => match parE io p.2 is p.1 with
  | some ρ2 => .ok (.next, ρ2)
  | none => .stuck
section
variable {K : PySem.W.Frag} {mg : Str → Option Value} {W : WX} {io : List Nat} {ρ0 : Env} {σ0 : L2.St} {H0 H : Hp}
theorem par_var {rs : List Rs} : ∀ {io : List Nat} {ρ ρ' : Env} {is : List Nat} , parE io ρ is rs = some ρ' → ∀ i, Rs.var i ∉ rs := by
  induction rs with
  | nil => intro io ρ ρ' is _ i h; cases h
  | cons r rs ih =>
    intro io ρ ρ' is h i hm
    cases is with
    | nil => cases h
    | cons j is =>
      unfold parE at h
      split at h
      · cases h
      · rcases List.mem_cons.mp hm with e | hm
        · subst e; cases h
        · cases e : asN r with
          | none => rw [e] at h; cases h
          | some vl => rw [e] at h; exact ih h i hm
theorem rs_set {ρ : Env} {σ : L2.St} {v : V} {vl : Vl} {j : Nat} (S : Sim K ρ σ H) : ∀ {vs : List V} {rs : List Rs}, RsAll K ρ σ H vs rs → (∀ i, Rs.var i ∉ rs) →
    (vl.owned = true → ∀ a, v = .ref a → ∀ (i : Nat) (ys : Bx), rs[i]? = some (Rs.new ys) → vs[i]? ≠ some (V.ref a)) → RsAll K (ρ.set j (some vl)) (σ.set j (some v)) H vs rs
  | _, _, .nil, _, _ => .nil
  | _, _, .cons (v := w) (r := r) (rs := rs) a t, hv, hn => by
    refine .cons ?_ (rs_set S t (fun i h => hv i (List.mem_cons_of_mem _ h)) fun o a e i ys h1 h2 => hn o a e (i + 1) ys (by simpa using h1) (by simpa using h2))
    cases r with
    | d x => exact a
    | scr xs => exact a
    | var i => exact absurd List.mem_cons_self (hv i)
    | new b =>
      obtain ⟨c, o, e, hl, rb, no⟩ := a
      refine ⟨c, o, e, hl, rb, fun z => ?_⟩
      rcases ow_sets S z with ⟨o', e'⟩ | z
      · exact hn o' c e' 0 b rfl (by rw [e]; rfl)
      · exact no z
theorem par_ok : ∀ {is : List Nat} {vs : List V} {rs : List Rs} {ρ ρ' : Env} {σ : L2.St}, SMid K io ρ0 σ0 H0 ρ σ H → RsAll K ρ σ H vs rs → NewD H0 vs rs → parE io ρ is rs = some ρ' → SMid K io ρ0 σ0 H0 ρ' (stV σ is vs) H ∧ is.length = vs.length
  | [], _, _, ρ, ρ', σ, m, .nil, _, h => by cases h; exact ⟨m, rfl⟩
  | [], _, _, ρ, ρ', σ, m, .cons _ _, _, h => by cases h
  | _ :: _, _, _, ρ, ρ', σ, m, .nil, _, h => by cases h
  | i :: is, _, _, ρ, ρ', σ, m, .cons (v := v) (r := r) (rs := rs) a t, n, h => by
    have hvar := par_var h
    unfold parE at h
    split at h
    · cases h
    · rename_i hc
      have hc : io.contains i = false := by simpa using hc
      cases e : asN r with
      | none => rw [e] at h; cases h
      | some vl =>
        rw [e] at h
        simp only at h
        have rv : RepV K H v vl ∧ (vl.owned = true → ∀ a, v = .ref a → ¬ Ow ρ σ a ∧ H0 a = none) ∧ (vl.owned = true → ∃ b, r = .new b) := by
          cases r with
          | var _ => cases e
          | d x => cases e; exact ⟨a, (fun z => by cases z), fun z => by cases z⟩
          | scr x => cases e; exact ⟨a, (fun z => by cases z), fun z => by cases z⟩
          | new b =>
            cases e
            obtain ⟨c, o, ec, hl, rb, no⟩ := a
            exact ⟨⟨c, o, ec, hl, rb⟩, (fun _ d ed => ⟨by rw [ec] at ed; cases ed; exact no, n.1 d ed⟩), fun _ => ⟨b, rfl⟩⟩
        have m' := m.set hc rv.1 rv.2.1
        obtain ⟨r1, r2⟩ := par_ok m' (rs_set m.sim t (fun i h => hvar i (List.mem_cons_of_mem _ h)) fun o a ea i ys h1 => by
          obtain ⟨b, er⟩ := rv.2.2 o
          exact n.2.1 a b er ea i ys h1) n.2.2 h
        exact ⟨r1, by rw [List.length_cons, List.length_cons, r2]⟩
theorem tS_par {is : List Nat} {ms : List M} {D : Ends} {σ : L2.St} {H : Hp} (h : tS K mg W io (mPar io is ms) D σ H) : tAr K mg W ms σ H fun vs H1 => is.length = vs.length ∧ D.nx (stV σ is vs) H1 := by
  obtain ⟨ρ, S, q⟩ := h
  unfold mPar at q
  refine ⟨ρ, S, ?_⟩
  cases e1 : mAs ms ρ with
  | stuck => rw [e1] at q; exact q.elim
  | exc x => rw [e1] at q; exact fun cls d H' ex k => q cls d σ H' ex k
  | ok p =>
    obtain ⟨rs, ρ1⟩ := p
    rw [e1] at q
    simp only [Ot.bind] at q
    intro vs H1 m1 ra nd
    cases e2 : parE io ρ1 is rs with
    | none => rw [e2] at q; exact q.elim
    | some ρ2 =>
      rw [e2] at q
      obtain ⟨m2, hl⟩ := par_ok m1.s ra nd e2
      exact ⟨hl, q _ _ m2⟩
/-- more heap behind it -/
theorem tS_parT {is : List Nat} {ms : List M} {D : Ends} {σ : L2.St} {H : Hp} (h : tS K mg W io (mPar io is ms) D σ H) : tAr K mg W ms σ H fun vs H1 => is.length = vs.length ∧ ∀ p, H1 p = none → D.nx (stV σ is vs) (upd H1 p (.tup vs)) := by
  obtain ⟨ρ, S, q⟩ := h
  unfold mPar at q
  refine ⟨ρ, S, ?_⟩
  cases e1 : mAs ms ρ with
  | stuck => rw [e1] at q; exact q.elim
  | exc x => rw [e1] at q; exact fun cls d H' ex k => q cls d σ H' ex k
  | ok p =>
    obtain ⟨rs, ρ1⟩ := p
    rw [e1] at q
    simp only [Ot.bind] at q
    intro vs H1 m1 ra nd
    cases e2 : parE io ρ1 is rs with
    | none => rw [e2] at q; exact q.elim
    | some ρ2 =>
      rw [e2] at q
      obtain ⟨m2, hl⟩ := par_ok m1.s ra nd e2
      exact ⟨hl, fun p hp => q _ _ (m2.trans (Mid.updN m2.sim hp).s)⟩
end
/-- the names, one after another -/
def gNs : List Nat → TGs
  | [] => gNil
  | i :: is => gCons (gName i) (gNs is)
theorem gNs_run {H : Hp} {Q : L2.St → Hp → Prop} : ∀ {is : List Nat} {vs : List V} {σ : L2.St}, is.length = vs.length → Q (stV σ is vs) H → gNs is vs σ H Q
  | [], [], σ, _, q => ⟨rfl, q⟩
  | [], _ :: _, σ, h, _ => by cases h
  | _ :: _, [], σ, h, _ => by cases h
  | i :: is, v :: vs, σ, h, q => ⟨v, vs, rfl, gNs_run (is := is) (by simpa using h) q⟩
section
variable {X : Cx} {W : WX} {io : List Nat} {pos px py pz pt pt2 : Pos} {x y z : Str} {a b c : Expr} {kt k2 : Nat} {i j l n : Nat} {ms : List M} {es vs : List Expr} {is : List Nat}
theorem ps_mpar2 (hc : X.calm = true) (hN : X.N.Nodup) (hi : X.N[i]? = some x) (hj : X.N[j]? = some y) (hij : i ≠ j) (hx : X.env.scope.names.lookup x = some .local) (hy : X.env.scope.names.lookup y = some .local) (ha : PA X [a, b] (tAr X.K X.mg W ms))
    (hw : swappedStores [.Tuple [.Name x px, .Name y py] kt pt] (.Tuple [a, b] k2 pt2) X.env = pure (some [x, y])) (hs : swapsWithSole [.Tuple [.Name x px, .Name y py] kt pt] (.Tuple [a, b] k2 pt2) pos.line X.env = pure false) :
    PS X (.Assign [.Tuple [.Name x px, .Name y py] kt pt] (.Tuple [a, b] k2 pt2) pos) (tS X.K X.mg W io (mPar io [i, j] ms)) := by
  refine PS.weak (ps_par hc hN hi hj hij hx hy ha hw hs) fun D σ H h => ?_
  obtain ⟨ρ, S, q⟩ := tS_par h
  refine ⟨ρ, S, ?_⟩
  revert q
  generalize mAs ms ρ = o
  intro q
  cases o with
  | stuck => exact q
  | exc x => exact q
  | ok p =>
    intro vs H1 m ra nd
    obtain ⟨hl, q'⟩ := q vs H1 m ra nd
    match vs, hl, q' with
    | [v, w], _, q' => exact ⟨v, w, rfl, q'⟩
theorem ps_mpar3 (hc : X.calm = true) (hN : X.N.Nodup) (hi : X.N[i]? = some x) (hj : X.N[j]? = some y) (hl : X.N[l]? = some z) (hij : i ≠ j) (hil : i ≠ l) (hjl : j ≠ l)
    (hx : X.env.scope.names.lookup x = some .local) (hy : X.env.scope.names.lookup y = some .local) (hz : X.env.scope.names.lookup z = some .local) (ha : PA X [a, b, c] (tAr X.K X.mg W ms))
    (hw : swappedStores [.Tuple [.Name x px, .Name y py, .Name z pz] kt pt] (.Tuple [a, b, c] k2 pt2) X.env = pure (some [x, y, z])) (hs : swapsWithSole [.Tuple [.Name x px, .Name y py, .Name z pz] kt pt] (.Tuple [a, b, c] k2 pt2) pos.line X.env = pure false) :
    PS X (.Assign [.Tuple [.Name x px, .Name y py, .Name z pz] kt pt] (.Tuple [a, b, c] k2 pt2) pos) (tS X.K X.mg W io (mPar io [i, j, l] ms)) := by
  refine PS.weak (ps_par3 hc hN hi hj hl hij hil hjl hx hy hz ha hw hs) fun D σ H h => ?_
  obtain ⟨ρ, S, q⟩ := tS_par h
  refine ⟨ρ, S, ?_⟩
  revert q
  generalize mAs ms ρ = o
  intro q
  cases o with
  | stuck => exact q
  | exc x => exact q
  | ok p =>
    intro vs H1 m ra nd
    obtain ⟨hl, q'⟩ := q vs H1 m ra nd
    match vs, hl, q' with
    | [u, v, w], _, q' => exact ⟨u, v, w, rfl, q'⟩
theorem ps_mparN (hc : X.calm = true) (ha : PA X vs (tAr X.K X.mg W ms)) (hg : PGs X es (gNs is)) (hn : (assignEach es X.env).length = n) (hl : is.length = n) (hst : (assignEach es X.env).findIdx? (·.1) = none)
    (hs : swapsWithSole [.Tuple es kt pt] (.Tuple vs k2 pt2) pos.line X.env = pure false) (hw : swappedStores [.Tuple es kt pt] (.Tuple vs k2 pt2) X.env = pure none)
    (h1 : (assignEach [.Tuple es kt pt] X.env).map (·.2) = [assign (.Tuple es kt pt) X.env]) (hz : n ≤ 1000) :
    PS X (.Assign [.Tuple es kt pt] (.Tuple vs k2 pt2) pos) (tS X.K X.mg W io (mPar io is ms)) := by
  refine PS.weak (ps_asg (pe_tup ha) (pg_tup hc hg hn hst) hs hw h1) fun D σ H h => ?_
  obtain ⟨ρ, S, q⟩ := tS_parT h
  refine ⟨ρ, S, ?_⟩
  revert q
  generalize mAs ms ρ = o
  intro q
  cases o with
  | stuck => exact q
  | exc x => exact q
  | ok p =>
    intro us H1 m ra nd
    obtain ⟨hl', q'⟩ := q us H1 m ra nd
    refine ⟨by rw [← hl', hl]; exact line1000 hz, fun p hp => ⟨p, us, rfl, .inl (.inl upd_same), by rw [← hl', hl], gNs_run hl' (q' p hp)⟩⟩
end
end Mp
set_option maxHeartbeats 1000000
/-! Mp22: calls of own defs. -/
namespace Mp
open PySem PySem.Spec PyProof.Rows L2
/-- what a def is, by what its parameters hold: its result, what they hold then -/
abbrev Fn := List Vl → Ot (Rs × List Vl)
def argV1 (ρ : Env) : Rs → Option Vl
  | .d x => some (Vl.d x)
  | .new b => some (.own b)
  | .scr xs => some (.scr xs)
  | .var i => lk ρ i
def argV (ρ : Env) : List Rs → Option (List Vl)
  | [] => some []
  | r :: rs => match argV1 ρ r, argV ρ rs with
    | some v, some vs => some (v :: vs)
    | _, _ => none
def varsR : List Rs → List Nat
  | [] => []
  | .var i :: rs => i :: varsR rs
  | _ :: rs => varsR rs
def nodupN : List Nat → Bool
  | [] => true
  | i :: is => !is.contains i && nodupN is
def putO : Env → List Rs → List Vl → Env
  | ρ, r :: rs, o :: os => putO (match r with
    | .var i => ρ.set i (some o)
    | _ => ρ) rs os
  | ρ, _, _ => ρ
def mCall (F : Fn) (ms : List M) : M := fun ρ => (mAs ms ρ).bind fun p => match argV p.2 p.1 with
  | some vls => if nodupN (varsR p.1) then match F vls with
      | .ok (r, outs) => .ok (r, putO p.2 p.1 outs)
      | _ => .stuck
    else .stuck
  | none => .stuck
/-- the i-th argument is one that the callee may change, at a -/
def ArgOw (vs : List V) (vls : List Vl) (a : Addr) : Prop := ∃ (i : Nat) (vl : Vl), vls[i]? = some vl ∧ vl.owned = true ∧ vs[i]? = some (.ref a)
/-- what a call leaves -/
structure KPost (K : PySem.W.Frag) (vs : List V) (vls outs : List Vl) (H : Hp) (v : V) (r : Rs) (H' : Hp) : Prop where
  len : outs.length = vls.length
  keep : Keep (ArgOw vs vls) H H'
  grow : ∀ a, H' a = none → H a = none
  out : ∀ (i : Nat) (vl : Vl), vls[i]? = some vl → ∃ v out, vs[i]? = some v ∧ outs[i]? = some out ∧ RepV K H' v out ∧ (out.owned = true → vl.owned = true)
  res : (∃ x, r = .d x ∧ RepD K H' v x) ∨ ∃ b a o, r = .new b ∧ v = .ref a ∧ H' a = some o ∧ BxAt K H' o b ∧ H a = none
/-- the arguments, as the callee takes them -/
structure ArgsOk (K : PySem.W.Frag) (vs : List V) (vls : List Vl) (H : Hp) : Prop where
  len : vs.length = vls.length
  rep : ∀ (i : Nat) (vl : Vl), vls[i]? = some vl → ∃ v, vs[i]? = some v ∧ RepV K H v vl
  one : ∀ (i j : Nat) (vl wl : Vl) (a : Addr), vls[i]? = some vl → vl.owned = true → vs[i]? = some (.ref a) → vls[j]? = some wl → wl.owned = true → vs[j]? = some (.ref a) → i = j
def spF (K : PySem.W.Frag) (n : Nat) (F : Fn) : Sp := fun vs H Q _ => ∃ vls r outs, vls.length = n ∧ ArgsOk K vs vls H ∧ F vls = .ok (r, outs) ∧ ∀ v H', KPost K vs vls outs H v r H' → Q v H'
section
variable {K : PySem.W.Frag} {ρ ρ0 : Env} {σ : L2.St} {H H0 : Hp}
theorem argV_len : ∀ {rs : List Rs} {vls : List Vl}, argV ρ rs = some vls → vls.length = rs.length
  | [], _, h => by cases h; rfl
  | r :: rs, vls, h => by
    unfold argV at h
    split at h
    · rename_i v vs _ e2
      cases h
      rw [List.length_cons, List.length_cons, argV_len e2]
    · cases h
theorem argV_get : ∀ {rs : List Rs} {vls : List Vl} {i : Nat} {r : Rs}, argV ρ rs = some vls → rs[i]? = some r → ∃ vl, vls[i]? = some vl ∧ argV1 ρ r = some vl
  | [], _, _, _, _, h => by simp at h
  | q :: rs, vls, i, r, h, hi => by
    unfold argV at h
    split at h
    · rename_i v vs e1 e2
      cases h
      cases i with
      | zero => simp at hi; subst hi; exact ⟨v, rfl, e1⟩
      | succ i => exact argV_get (i := i) e2 (by simpa using hi)
    · cases h
theorem all_len : ∀ {vs : List V} {rs : List Rs}, RsAll K ρ σ H vs rs → vs.length = rs.length
  | _, _, .nil => rfl
  | _, _, .cons _ t => congrArg (· + 1) (all_len t)
theorem all_get : ∀ {vs : List V} {rs : List Rs} {i : Nat} {r : Rs}, RsAll K ρ σ H vs rs → rs[i]? = some r → ∃ v, vs[i]? = some v ∧ RsAt K ρ σ H v r
  | _, _, _, _, .nil, h => by simp at h
  | _, _, 0, _, .cons a _, h => by simp at h; subst h; exact ⟨_, rfl, a⟩
  | _, _, i + 1, _, .cons _ t, h => all_get (i := i) t (by simpa using h)
theorem rs_rep {v : V} {r : Rs} {vl : Vl} (S : Sim K ρ σ H) (a : RsAt K ρ σ H v r) (h : argV1 ρ r = some vl) : RepV K H v vl := by
  cases r with
  | d x => cases h; exact a
  | scr xs => cases h; exact a
  | new b =>
    cases h
    obtain ⟨c, o, e, hl, rb, _⟩ := a
    exact ⟨c, o, e, hl, rb⟩
  | var i =>
    obtain ⟨es, _⟩ := a
    obtain ⟨v', e1, rv⟩ := S.rep i _ h
    rw [es] at e1; cases e1
    exact rv
theorem vars_mem : ∀ {rs : List Rs} {i j : Nat}, rs[i]? = some (.var j) → j ∈ varsR rs
  | [], _, _, h => by simp at h
  | r :: rs, 0, j, h => by simp at h; subst h; exact List.mem_cons_self
  | r :: rs, i + 1, j, h => by
    have := vars_mem (rs := rs) (i := i) (j := j) (by simpa using h)
    cases r <;> first | exact this | exact List.mem_cons_of_mem _ this
theorem vars_one : ∀ {rs : List Rs} {i j k : Nat}, nodupN (varsR rs) = true → rs[i]? = some (.var k) → rs[j]? = some (.var k) → i = j
  | [], _, _, _, _, h, _ => by simp at h
  | r :: rs, 0, 0, k, _, _, _ => rfl
  | r :: rs, 0, j + 1, k, hn, h1, h2 => by
    simp at h1
    subst h1
    have hm := vars_mem (rs := rs) (i := j) (j := k) (by simpa using h2)
    simp [varsR, nodupN, hm] at hn
  | r :: rs, i + 1, 0, k, hn, h1, h2 => by
    simp at h2
    subst h2
    have hm := vars_mem (rs := rs) (i := i) (j := k) (by simpa using h1)
    simp [varsR, nodupN, hm] at hn
  | r :: rs, i + 1, j + 1, k, hn, h1, h2 => by
    have hn' : nodupN (varsR rs) = true := by
      cases r with
      | var q =>
        simp only [varsR, nodupN, Bool.and_eq_true] at hn
        exact hn.2
      | _ => exact hn
    exact congrArg (· + 1) (vars_one (rs := rs) hn' (by simpa using h1) (by simpa using h2))
theorem putO_len : ∀ {rs : List Rs} {os : List Vl} {ρ : Env}, (putO ρ rs os).length = ρ.length
  | [], _, ρ => by unfold putO; rfl
  | _ :: _, [], ρ => by unfold putO; rfl
  | r :: rs, o :: os, ρ => by
    unfold putO
    rw [putO_len]
    cases r <;> first | rfl | rw [List.length_set]
theorem lk_putO_out : ∀ {rs : List Rs} {os : List Vl} {ρ : Env} {j : Nat}, j ∉ varsR rs → lk (putO ρ rs os) j = lk ρ j
  | [], _, ρ, j, _ => by unfold putO; rfl
  | _ :: _, [], ρ, j, _ => by unfold putO; rfl
  | r :: rs, o :: os, ρ, j, h => by
    unfold putO
    cases r with
    | var i =>
      have h1 : i ≠ j := fun e => h (by rw [e]; exact List.mem_cons_self)
      rw [lk_putO_out fun m => h (List.mem_cons_of_mem _ m)]
      exact lk_set_ne h1
    | d _ => exact lk_putO_out h
    | new _ => exact lk_putO_out h
    | scr _ => exact lk_putO_out h
theorem lk_putO_in : ∀ {rs : List Rs} {os : List Vl} {ρ : Env} {i j : Nat} {o : Vl}, nodupN (varsR rs) = true → j < ρ.length → rs[i]? = some (.var j) → os[i]? = some o → lk (putO ρ rs os) j = some o
  | [], _, _, _, _, _, _, _, h, _ => by simp at h
  | _ :: _, [], _, _, _, _, _, _, _, h => by simp at h
  | r :: rs, p :: os, ρ, 0, j, o, hn, hl, h1, h2 => by
    simp at h1 h2
    subst h1; subst h2
    unfold putO
    have hm : j ∉ varsR rs := by
      intro hm
      simp [varsR, nodupN, hm] at hn
    rw [lk_putO_out hm]
    exact lk_set_self hl
  | r :: rs, p :: os, ρ, i + 1, j, o, hn, hl, h1, h2 => by
    unfold putO
    have hn' : nodupN (varsR rs) = true := by
      cases r with
      | var q =>
        simp only [varsR, nodupN, Bool.and_eq_true] at hn
        exact hn.2
      | _ => exact hn
    refine lk_putO_in (i := i) hn' ?_ (by simpa using h1) (by simpa using h2)
    cases r <;> first | exact hl | (rw [List.length_set]; exact hl)
theorem vars_at : ∀ {rs : List Rs} {j : Nat}, j ∈ varsR rs → ∃ i : Nat, rs[i]? = some (Rs.var j)
  | [], _, h => by cases h
  | r :: rs, j, h => by
    cases r with
    | var k =>
      rcases List.mem_cons.mp h with e | h
      · subst e; exact ⟨0, rfl⟩
      · obtain ⟨i, hi⟩ := vars_at h
        exact ⟨i + 1, by simpa using hi⟩
    | d _ =>
      obtain ⟨i, hi⟩ := vars_at (rs := rs) h
      exact ⟨i + 1, by simpa using hi⟩
    | new _ =>
      obtain ⟨i, hi⟩ := vars_at (rs := rs) h
      exact ⟨i + 1, by simpa using hi⟩
    | scr _ =>
      obtain ⟨i, hi⟩ := vars_at (rs := rs) h
      exact ⟨i + 1, by simpa using hi⟩
theorem new_one : ∀ {vs : List V} {rs : List Rs} {i j : Nat} {a : Addr} {b c : Bx}, NewD H0 vs rs → rs[i]? = some (.new b) → rs[j]? = some (.new c) → vs[i]? = some (.ref a) → vs[j]? = some (.ref a) → i = j
  | [], _, i, _, _, _, _, _, _, _, h, _ => by simp at h
  | _ :: _, [], i, _, _, _, _, _, h, _, _, _ => by simp at h
  | v :: vs, r :: rs, 0, 0, _, _, _, _, _, _, _, _ => rfl
  | v :: vs, r :: rs, 0, j + 1, a, b, c, n, h1, h2, h3, h4 => by
    simp at h1 h3
    exact absurd (by simpa using h4) (n.2.1 a b h1 h3 j c (by simpa using h2))
  | v :: vs, r :: rs, i + 1, 0, a, b, c, n, h1, h2, h3, h4 => by
    simp at h2 h4
    exact absurd (by simpa using h3) (n.2.1 a c h2 h4 i b (by simpa using h1))
  | v :: vs, r :: rs, i + 1, j + 1, a, b, c, n, h1, h2, h3, h4 => congrArg (· + 1) (new_one n.2.2 (by simpa using h1) (by simpa using h2) (by simpa using h3) (by simpa using h4))
theorem get_of_len {α β : Type} {xs : List α} {ys : List β} (h : ys.length = xs.length) {i : Nat} {y : β} (hy : ys[i]? = some y) : ∃ x, xs[i]? = some x := by
  obtain ⟨hi, _⟩ := List.getElem?_eq_some_iff.mp hy
  exact ⟨xs[i]'(by omega), List.getElem?_eq_getElem _⟩
/-- an owned argument: one of a name's, or a new one -/
theorem arg_own {vs : List V} {rs : List Rs} {vls : List Vl} {i : Nat} {vl : Vl} {a : Addr} (S : Sim K ρ σ H) (ra : RsAll K ρ σ H vs rs) (hv : argV ρ rs = some vls) (h1 : vls[i]? = some vl) (h2 : vl.owned = true) (h3 : vs[i]? = some (.ref a)) :
    (∃ j, rs[i]? = some (.var j) ∧ OwnAt ρ σ j a) ∨ ∃ b, rs[i]? = some (.new b) ∧ ¬ Ow ρ σ a := by
  obtain ⟨r, hr⟩ := get_of_len (argV_len hv) h1
  obtain ⟨vl', e1, e2⟩ := argV_get hv hr
  rw [h1] at e1; cases e1
  obtain ⟨v, ev, at_⟩ := all_get ra hr
  rw [h3] at ev; cases ev
  cases r with
  | d x => cases e2; cases h2
  | scr x => cases e2; cases h2
  | new b =>
    obtain ⟨c, o, ec, _, _, no⟩ := at_
    cases ec
    exact .inr ⟨b, hr, no⟩
  | var j =>
    obtain ⟨es, _⟩ := at_
    exact .inl ⟨j, hr, ⟨vl, e2, h2⟩, es⟩
theorem args_ok {vs : List V} {rs : List Rs} {vls : List Vl} (S : Sim K ρ σ H) (ra : RsAll K ρ σ H vs rs) (nd : NewD H0 vs rs) (hv : argV ρ rs = some vls) (hn : nodupN (varsR rs) = true) : ArgsOk K vs vls H := by
  refine ⟨by rw [all_len ra, argV_len hv], fun i vl h => ?_, fun i j vl wl a h1 h2 h3 h4 h5 h6 => ?_⟩
  · obtain ⟨r, hr⟩ := get_of_len (argV_len hv) h
    obtain ⟨vl', e1, e2⟩ := argV_get hv hr
    rw [h] at e1; cases e1
    obtain ⟨v, ev, at_⟩ := all_get ra hr
    exact ⟨v, ev, rs_rep S at_ e2⟩
  · rcases arg_own S ra hv h1 h2 h3 with ⟨p, q1, q2⟩ | ⟨b, q1, q2⟩
    · rcases arg_own S ra hv h4 h5 h6 with ⟨p', q3, q4⟩ | ⟨b', q3, q4⟩
      · have := S.one p p' a q2 q4
        subst this
        exact vars_one hn q1 q3
      · exact absurd ⟨p, q2⟩ q4
    · rcases arg_own S ra hv h4 h5 h6 with ⟨p', q3, q4⟩ | ⟨b', q3, q4⟩
      · exact absurd ⟨p', q4⟩ q2
      · exact new_one nd q1 q3 h3 h6
/-- behind the call, for the caller -/
theorem call_post {vs : List V} {rs : List Rs} {vls outs : List Vl} {v : V} {r : Rs} {H' : Hp} (m : Mid K ρ0 σ H0 ρ H) (ra : RsAll K ρ σ H vs rs) (nd : NewD H0 vs rs) (hv : argV ρ rs = some vls) (hn : nodupN (varsR rs) = true)
    (k : KPost K vs vls outs H v r H') : EPost K ρ0 σ H0 (putO ρ rs outs) H' v r := by
  have S := m.sim
  have aow : ∀ a, ArgOw vs vls a → (∃ j, j ∈ varsR rs ∧ OwnAt ρ σ j a) ∨ (¬ Ow ρ σ a ∧ H0 a = none) := fun a ⟨i, vl, h1, h2, h3⟩ => by
    rcases arg_own S ra hv h1 h2 h3 with ⟨j, q1, q2⟩ | ⟨b, q1, q2⟩
    · exact .inl ⟨j, vars_mem q1, q2⟩
    · exact .inr ⟨q2, nd.get h3 q1 a rfl⟩
  have mu : ∀ a, ArgOw vs vls a → ∃ o, H a = some o ∧ Mu o := fun a ⟨i, vl, h1, h2, h3⟩ => by
    obtain ⟨v, ev, rv⟩ := (args_ok S ra nd hv hn).rep i vl h1
    rw [h3] at ev; cases ev
    cases vl with
    | d _ => cases h2
    | scr _ => cases h2
    | own b =>
      obtain ⟨c, o, ec, hl, rb⟩ := rv
      cases ec
      exact ⟨o, hl, rb.mu⟩
  have pr : Pers H H' := ⟨fun b xs e => k.keep b _ e fun z => by obtain ⟨o, e', mm⟩ := mu b z; rw [e] at e'; cases e'; exact mm,
    fun b o u e => k.keep b _ e fun z => by obtain ⟨o, e', mm⟩ := mu b z; rw [e] at e'; cases e'; exact mm⟩
  -- what a name holds then
  have at_ : ∀ j vl, lk (putO ρ rs outs) j = some vl → (∃ v, σ[j]? = some (some v) ∧ RepV K H' v vl) ∧ (vl.owned = true → ∃ wl, lk ρ j = some wl ∧ wl.owned = true) := fun j vl e => by
    by_cases hj : j ∈ varsR rs
    · obtain ⟨i, hi⟩ := vars_at hj
      obtain ⟨wl, h1, h2⟩ := argV_get hv hi
      obtain ⟨u, out, h3, h4, h5, h6⟩ := k.out i wl h1
      have hlen : j < ρ.length := lk_lt h2
      rw [lk_putO_in hn hlen hi h4] at e
      cases e
      obtain ⟨u', e1, a1⟩ := all_get ra hi
      rw [h3] at e1; cases e1
      exact ⟨⟨u, a1.1, h5⟩, fun o => ⟨wl, h2, h6 o⟩⟩
    · rw [lk_putO_out hj] at e
      refine ⟨?_, fun o => ⟨vl, e, o⟩⟩
      obtain ⟨u, e1, rv⟩ := S.rep j vl e
      refine ⟨u, e1, ?_⟩
      cases vl with
      | d x => exact RepD.pers pr rv
      | scr xs =>
        obtain ⟨b, us, eb, hq, rs'⟩ := rv
        exact ⟨b, us, eb, pr.scL hq, RepDs.pers pr rs'⟩
      | own bx =>
        obtain ⟨b, o, eb, hq, rb⟩ := rv
        refine ⟨b, o, eb, k.keep b o hq fun z => ?_, rb.pers pr⟩
        have hob : OwnAt ρ σ j b := ⟨⟨_, e, rfl⟩, by rw [e1, eb]⟩
        rcases aow b z with ⟨j', hj', ho⟩ | ⟨ho, _⟩
        · exact hj (S.one j' j b ho hob ▸ hj')
        · exact ho ⟨j, hob⟩
  have ow : ∀ j a, OwnAt (putO ρ rs outs) σ j a → OwnAt ρ σ j a := fun j a ⟨⟨vl, e1, e2⟩, e3⟩ => ⟨(at_ j vl e1).2 e2, e3⟩
  have sub : ∀ a, Ow (putO ρ rs outs) σ a → Ow ρ σ a := fun a ⟨j, h⟩ => ⟨j, ow j a h⟩
  refine ⟨⟨by rw [putO_len]; exact S.len, fun j vl e => (at_ j vl e).1, fun i j a h1 h2 => S.one i j a (ow i a h1) (ow j a h2)⟩, ?_, fun a h => m.grow a (k.grow a h), fun a h => m.sub a (sub a h), fun j vl e => ?_, ?_, ?_⟩
  · refine m.keep.trans k.keep fun c h => ?_
    rcases aow c h with ⟨j, _, ho⟩ | ⟨_, hn0⟩
    · exact .inl (m.sub c ⟨j, ho⟩)
    · exact .inr hn0
  · obtain ⟨vl', e'⟩ := m.dom j vl e
    by_cases hj : j ∈ varsR rs
    · obtain ⟨i, hi⟩ := vars_at hj
      obtain ⟨wl, h1, h2⟩ := argV_get hv hi
      obtain ⟨u, out, h3, h4, h5, h6⟩ := k.out i wl h1
      exact ⟨out, lk_putO_in hn (lk_lt h2) hi h4⟩
    · exact ⟨vl', by rw [lk_putO_out hj]; exact e'⟩
  · rcases k.res with ⟨x, er, rx⟩ | ⟨b, a, o, er, ev, hl, rb, hf⟩
    · subst er; exact rx
    · subst er
      exact ⟨a, o, ev, hl, rb, fun z => S.not_ow hf (sub a z)⟩
  · rcases k.res with ⟨x, er, rx⟩ | ⟨b, a, o, er, ev, hl, rb, hf⟩
    · subst er; trivial
    · subst er
      intro c ec
      rw [ev] at ec; cases ec
      exact m.grow _ hf
theorem tOf_call {mg : Str → Option Value} {W : WX} {F : Fn} {ms : List M} {n : Nat} {Q : VK} {E : XK} (hn : ms.length = n) (h : tOf K mg W (mCall F ms) σ H Q) : tCall (spF K n F) [] E (tAr K mg W ms) σ H Q := by
  obtain ⟨ρ, S, q⟩ := h
  unfold mCall at q
  refine ⟨ρ, S, ?_⟩
  cases e1 : mAs ms ρ with
  | stuck => rw [e1] at q; exact q.elim
  | exc x => rw [e1] at q; exact q
  | ok p =>
    obtain ⟨rs, ρ1⟩ := p
    rw [e1] at q
    simp only [Ot.bind] at q
    intro vs H1 m1 ra nd
    cases e2 : argV ρ1 rs with
    | none => rw [e2] at q; exact q.elim
    | some vls =>
      rw [e2] at q
      simp only at q
      split at q
      case isFalse => exact q.elim
      rename_i hnd
      cases e3 : F vls with
      | stuck => rw [e3] at q; exact q.elim
      | exc x => rw [e3] at q; exact q.elim
      | ok p =>
        obtain ⟨r, outs⟩ := p
        rw [e3] at q
        rw [List.append_nil]
        have hlen : ∀ {ms : List M} {ρ ρ1 : Env} {rs : List Rs}, mAs ms ρ = .ok (rs, ρ1) → rs.length = ms.length := by
          intro ms
          induction ms with
          | nil => intro ρ ρ1 rs h; cases h; rfl
          | cons m ms ih =>
            intro ρ ρ1 rs h
            unfold mAs at h
            cases a1 : m ρ with
            | stuck => rw [a1] at h; cases h
            | exc x => rw [a1] at h; cases h
            | ok p =>
              rw [a1] at h
              simp only [Ot.bind] at h
              cases a2 : mAs ms p.2 with
              | stuck => rw [a2] at h; cases h
              | exc x => rw [a2] at h; cases h
              | ok p' =>
                rw [a2] at h
                cases h
                rw [List.length_cons, List.length_cons, ih a2]
        exact ⟨vls, r, outs, by rw [argV_len e2, hlen e1]; exact hn, args_ok m1.sim ra nd e2 hnd, e3, fun v H' k => q v H' (call_post m1 ra nd e2 hnd k)⟩
end
end Mp
set_option maxHeartbeats 1000000
/-! Mp23: defs where no text of an object is being made around. -/
namespace Mp
open PySem PySem.Spec PyProof.Rows L2
/-- what a def promises, called where no text is being made -/
structure FnG (P : Program) (w : World) (K : PySem.W.Frag) (mg : Str → Option Value) (base : Heap) (k : Nat) (f : Addr) (fd : FuncData) (ps : List Str) (sp : Sp) : Prop where
  len : ∀ vs H Q E, sp vs H Q E → vs.length = ps.length
  run : ∀ (A : Around) (fr : List PySem.Env) (s : Shared) (H : Hp) (ar : Args) (us : List Value) (vs : List V) (Q : VK) (E : XK), Room k A → A.guards = some [] → Env0 P w K mg base A fr s H → BindsTo s fd ar (ps.zip us) → Vals vs us → sp vs H Q E →
    codeAny (model P w) A (.call (.ref f) ar) (CR C8.CX0 fr P w H s Q E) s
theorem FnG.mono {P : Program} {w : World} {K : PySem.W.Frag} {mg : Str → Option Value} {base : Heap} {j k : Nat} {f : Addr} {fd : FuncData} {ps : List Str} {sp : Sp} (F : FnG P w K mg base j f fd ps sp) (h : j ≤ k) : FnG P w K mg base k f fd ps sp :=
  ⟨F.len, fun A fr s H ar us vs Q E hr => F.run A fr s H ar us vs Q E (hr.mono h)⟩
section
variable {X : Cx} {k : Nat} {f : Addr} {fd : FuncData} {ps : List Str} {sp : Sp} {E : XK} {x : Str} {p pos : Pos} {e : Expr} {es : List Expr} {t : TA}
theorem runG {pins : List (Addr × Obj)} {σ : L2.St} {H : Hp} {s : Shared} {Q : VK} {ar : Args} {us : List Value} {vs : List V} (F : FnG X.prog X.w X.K X.mg X.base k f fd ps sp) (hr : Room k X.A) (hgd : X.A.guards = some []) (hb : BindsTo s fd ar (ps.zip us))
    (I : Inv X pins σ H s) (r : Vals vs us) (h : sp vs H Q E) : codeAny (model X.prog X.w) X.A (.call (.ref f) ar) (fun r s' => match r with
      | .ok (.ret u) => EP X pins σ Q u s'
      | .ok _ => False
      | .error e => X.xe e s') s := by
  refine codeAny_mono (F.run X.A X.stack s H ar us vs Q E hr hgd I.env0 hb r h) fun re s' hq => ?_
  match re, hq with
  | .error _, hq => exact False.elim hq
  | .ok (.ret u), hq => exact I.after hq
  | .ok .next, hq => exact hq.elim
  | .ok .brk, hq => exact hq.elim
  | .ok .cont, hq => exact hq.elim
theorem pe_callG (F : FnG X.prog X.w X.K X.mg X.base k f fd ps sp) (hr : Room k X.A) (hgd : X.A.guards = some []) (hg : Gl X x) (hm : X.mg x = some (.ref f)) (hk : PySem.W.keepIn X.K (.ref f) = true) (hb : Binds X.K fd ps [])
    (ha : PA X (e :: es) t) (hdb : (x == ("__debug__" : Str)) = false) (he : starEach (e :: es) X.env = (false, eval e X.env) :: starEach es X.env) (hpl : (backTo pos (starEach es X.env)).any (·.1) = false) :
    PE X (.Call (.Name x p) (e :: es) [] pos) (tCall sp [] E t) := by
  refine ⟨fun pins s σ H Q I h => wpAny_Call_Name_kw (ld_glob I hg hm (PySem.W.callWith_K (h₀ := X.base) I.ok.mod.kin hk (thn (ha.run pos pins s σ H _ I h) fun us s1 ⟨vs, H1, I1, r, q⟩ => ⟨I1.kIn, ?_⟩) he hpl) hdb)⟩
  have q : sp (vs ++ []) H1 Q E := q
  rw [List.append_nil] at q
  have hl : (us ++ []).length = ps.length := by rw [List.append_nil, ← r.length]; exact F.len _ _ _ _ q
  have hbd := hb s1 us I1.kIn hl
  rw [List.append_nil] at hbd
  show wpAny _ _ (call (.ref f) us) _ _ _
  refine wpAny_call (codeAny_mono (runG F hr hgd hbd I1 r q) fun re s' hq => ?_)
  match re, hq with
  | .error _, hq => exact hq
  | .ok (.ret u), hq => exact hq
  | .ok .next, hq => exact hq.elim
  | .ok .brk, hq => exact hq.elim
  | .ok .cont, hq => exact hq.elim
end
/-- a def by its body -/
theorem fn_ofG {P : Program} {w : World} {K : PySem.W.Frag} {mg : Str → Option Value} {base : Heap} {k : Nat} {f : Addr} {x qual : Str} {pr : Arguments} {bd : List Stmt} {sc : Scope} {dvs : List V} {kws : List (Str × V)} {fd : FuncData} {N ps : List Str} {sp : Sp} (F : FunD K x qual pr bd sc dvs kws f fd) (S : FnScope N ps sc)
    (len : ∀ vs H Q E, sp vs H Q E → vs.length = ps.length)
    (hbody : ∀ (cdv : Value) (A : Around) (fr : List PySem.Env) (s : Shared) (H : Hp) (vs : List V) (Q : VK) (E : XK), Room k (A.deeper (envOfC qual sc s.heap.objs.size f cdv)) → A.guards = some [] → sp vs H Q E →
      ∃ t, PSs (cxOf C8.CX0 P w K mg base N qual sc f cdv A fr s H E) bd t ∧ t { nx := fun _ H' => Q .non H', rt := Q } (L2.start N vs) H) :
    FnG P w K mg base (k + 1) f fd ps sp := by
  obtain ⟨oc, od, dV, kV, doc, pm, an, cdv, ct, osl, efd, lk, hcd, _, _⟩ := F.ex
  subst efd
  refine ⟨len, fun A fr s H ar us vs Q E hr hgd e0 hb r hsp => ?_⟩
  have hvl := len _ _ _ _ hsp
  have inK : K.In s.heap := e0.mod.kin.keeps fun b o e => (e0.bs b o e).1
  have noLim : s.heap.NoLimit := e0.mod.nolimit.keeps fun b o e => (e0.bs b o e).1
  have kinds : ∀ y ∈ ps.zip us, sc.names.lookup y.1 = some .local ∨ (sc.names.lookup y.1 = some .cell ∧ ((cellsFrom (s.heap.objs.size + 1) sc.names []).lookup y.1).isSome = true) := by
    rintro ⟨nm, vv⟩ hy
    exact (S.par nm (List.of_mem_zip hy).1).imp id fun q => ⟨q, PySem.W.cellsFrom_some _ _ _ (.inl q)⟩
  refine codeAny_call_function hr.depth (inK _ _ lk) rfl S.co S.gen rfl (PySem.W.codeRec_of inK hcd) (hb _ _ _ _ (wpAny_newFunctionEnv_cells S.kind kinds fun env he s1 xx => ?_))
  subst he
  refine ⟨noLim.keeps xx.toInCall.keep, codeAny_func ?_⟩
  obtain ⟨t, ht, hq⟩ := hbody cdv A fr s H vs Q E (hr.deeper _) hgd hsp
  have I0 := inv_start (CX := C8.CX0) (E := E) S hr.hd e0 hvl r xx
  refine wpAny_mono (ht.run [] s1 (L2.start N vs) H _ I0 hq) (fun fl s' hs => ?_) fun _ _ hs => hs
  match fl, hs with
  | .ret u, ⟨v, σ', H', J, rv, q⟩ => exact ⟨v, H', J.os, J.bare, J.base, J.hok, rv, q⟩
  | .next, ⟨σ', H', J, q⟩ => exact ⟨V.non, H', J.os, J.bare, J.base, J.hok, rfl, q⟩
  | .brk, ⟨_, _, _, q⟩ => exact False.elim q
  | .cont, ⟨_, _, _, q⟩ => exact False.elim q
/-! ### a def by its combinator -/
def startE (n : Nat) (vls : List Vl) : Env := vls.map some ++ List.replicate (n - vls.length) none
def outI (ρ : Env) (i : Nat) : Option Vl := match lk ρ i with
  | some (.own b) => some (.own b)
  | some (.d (.list xs)) => some (.d (.list xs))
  | some (.d (.dict xs)) => some (.d (.dict xs))
  | _ => none
theorem outI_lk {ρ : Env} {i : Nat} {o : Vl} (h : outI ρ i = some o) : lk ρ i = some o := by
  unfold outI at h
  split at h
  · cases h; assumption
  · cases h; assumption
  · cases h; assumption
  · cases h
def outsF (ρ : Env) : Nat → List Vl → Option (List Vl)
  | _, [] => some []
  | i, vl :: vls => match (if vl.owned then outI ρ i else some vl), outsF ρ (i + 1) vls with
    | some o, some os => some (o :: os)
    | _, _ => none
def ownedAt (vls : List Vl) (j : Nat) : Bool := match vls[j]? with
  | some vl => vl.owned
  | none => false
def resF (vls : List Vl) (ρ : Env) : Rs → Option Rs
  | .d x => some (.d x)
  | .new b => some (.new b)
  | .scr _ => none
  | .var j => match lk ρ j with
    | some (.own b) => if ownedAt vls j then none else some (.new b)
    | some (.d x) => some (.d x)
    | _ => none
def ioOk (io : List Nat) : Nat → List Vl → Bool
  | _, [] => true
  | i, vl :: vls => (!vl.owned || io.contains i) && ioOk io (i + 1) vls
def finF (vls : List Vl) (ρ : Env) (r : Rs) : Ot (Rs × List Vl) := match resF vls ρ r, outsF ρ 0 vls with
  | some r, some os => .ok (r, os)
  | _, _ => .stuck
/-- the def whose body is m: n names, the names at io never stored -/
def runF (n : Nat) (io : List Nat) (m : MS) : Fn := fun vls => if ioOk io 0 vls && decide (vls.length ≤ n) then match m (startE n vls) with
    | .ok (.ret r, ρ) => finF vls ρ r
    | .ok (.next, ρ) => finF vls ρ (.d .none)
    | _ => .stuck
  else .stuck
theorem startE_get {n : Nat} {vls : List Vl} {i : Nat} {vl : Vl} (h : lk (startE n vls) i = some vl) : vls[i]? = some vl := by
  have h := (lk_iff _ _ _).mp h
  unfold startE at h
  by_cases hi : i < vls.length
  · rw [List.getElem?_append_left (by simpa using hi), List.getElem?_map] at h
    cases e : vls[i]? with
    | none => rw [e] at h; cases h
    | some a => rw [e] at h; cases h; rfl
  · rw [List.getElem?_append_right (by simpa using hi), List.getElem?_replicate] at h
    split at h <;> cases h
theorem startE_at {n : Nat} {vls : List Vl} {i : Nat} {vl : Vl} (h : vls[i]? = some vl) : lk (startE n vls) i = some vl := by
  refine (lk_iff _ _ _).mpr ?_
  have hi := (List.getElem?_eq_some_iff.mp h).1
  unfold startE
  rw [List.getElem?_append_left (by simpa using hi), List.getElem?_map, h]
  rfl
theorem start_at {N : List Str} {vs : List V} {i : Nat} {v : V} (h : vs[i]? = some v) : (L2.start N vs)[i]? = some (some v) := by
  have hi := (List.getElem?_eq_some_iff.mp h).1
  unfold L2.start
  rw [List.getElem?_append_left (by simpa using hi), List.getElem?_map, h]
  rfl
theorem outsF_get {ρ : Env} : ∀ {k : Nat} {vls os : List Vl}, outsF ρ k vls = some os → os.length = vls.length ∧ ∀ (i : Nat) (vl : Vl), vls[i]? = some vl → ∃ o, os[i]? = some o ∧ (if vl.owned then outI ρ (k + i) else some vl) = some o
  | k, [], os, h => by cases h; exact ⟨rfl, fun i vl h => by simp at h⟩
  | k, v :: vls, os, h => by
    unfold outsF at h
    split at h
    · rename_i o os' e1 e2
      cases h
      obtain ⟨h1, h2⟩ := outsF_get e2
      refine ⟨by rw [List.length_cons, List.length_cons, h1], fun i vl hi => ?_⟩
      cases i with
      | zero => simp at hi; subst hi; exact ⟨o, rfl, e1⟩
      | succ i =>
        obtain ⟨o', a, b⟩ := h2 i vl (by simpa using hi)
        exact ⟨o', by simpa using a, by rw [show k + (i + 1) = k + 1 + i from by omega]; exact b⟩
    · cases h
theorem ioOk_get {io : List Nat} : ∀ {k : Nat} {vls : List Vl} {i : Nat} {vl : Vl}, ioOk io k vls = true → vls[i]? = some vl → vl.owned = true → k + i ∈ io
  | k, [], i, vl, _, h, _ => by simp at h
  | k, v :: vls, 0, vl, h, hi, ho => by
    simp at hi; subst hi
    unfold ioOk at h
    rw [ho] at h
    simp at h
    exact h.1
  | k, v :: vls, i + 1, vl, h, hi, ho => by
    unfold ioOk at h
    have := ioOk_get (k := k + 1) (i := i) ((Bool.and_eq_true _ _).mp h).2 (by simpa using hi) ho
    rw [show k + (i + 1) = k + 1 + i from by omega]
    exact this
section
variable {K : PySem.W.Frag} {mg : Str → Option Value}
theorem start_sim {N : List Str} {vs : List V} {vls : List Vl} {H : Hp} (a : ArgsOk K vs vls H) : Sim K (startE N.length vls) (L2.start N vs) H := by
  refine ⟨?_, fun i vl e => ?_, fun i j b h1 h2 => ?_⟩
  · unfold startE L2.start
    rw [List.length_append, List.length_append, List.length_map, List.length_map, List.length_replicate, List.length_replicate, a.len]
  · obtain ⟨v, e1, r⟩ := a.rep i vl (startE_get e)
    exact ⟨v, start_at e1, r⟩
  · obtain ⟨⟨vl, e1, e2⟩, e3⟩ := h1
    obtain ⟨⟨wl, e4, e5⟩, e6⟩ := h2
    have g1 := startE_get e1
    have g2 := startE_get e4
    obtain ⟨v, q1, _⟩ := a.rep i vl g1
    obtain ⟨u, q2, _⟩ := a.rep j wl g2
    rw [start_at q1] at e3
    rw [start_at q2] at e6
    cases e3; cases e6
    exact a.one i j vl wl b g1 e2 q1 g2 e5 q2
theorem fin_post {N : List Str} {io : List Nat} {vs : List V} {vls os : List Vl} {H H' : Hp} {ρ' : Env} {σ' : L2.St} {v : V} {r r' : Rs} (a : ArgsOk K vs vls H) (hio : ioOk io 0 vls = true) (m : SMid K io (startE N.length vls) (L2.start N vs) H ρ' σ' H') (at_ : RsAt K ρ' σ' H' v r) (hf : Fresh H v r)
    (e : finF vls ρ' r = .ok (r', os)) : KPost K vs vls os H v r' H' := by
  have S0 := start_sim (N := N) a
  have ow_arg : ∀ b, Ow (startE N.length vls) (L2.start N vs) b → ArgOw vs vls b := fun b ⟨i, ⟨vl, e1, e2⟩, e3⟩ => by
    have g1 := startE_get e1
    obtain ⟨u, q1, _⟩ := a.rep i vl g1
    rw [start_at q1] at e3
    cases e3
    exact ⟨i, vl, g1, e2, q1⟩
  have pr := S0.pers m.keep
  unfold finF at e
  cases e1 : resF vls ρ' r with
  | none => rw [e1] at e; cases e
  | some r2 =>
    cases e2 : outsF ρ' 0 vls with
    | none => rw [e1, e2] at e; cases e
    | some os2 =>
      rw [e1, e2] at e
      cases e
      obtain ⟨l1, l2⟩ := outsF_get e2
      refine ⟨l1, m.keep.mono ow_arg, m.grow, fun i vl hi => ?_, ?_⟩
      · obtain ⟨u, q1, q2⟩ := a.rep i vl hi
        obtain ⟨o, q3, q4⟩ := l2 i vl hi
        refine ⟨u, o, q1, q3, ?_⟩
        by_cases ho : vl.owned = true
        · rw [if_pos ho, Nat.zero_add] at q4
          have hin := ioOk_get hio hi ho
          rw [Nat.zero_add] at hin
          have es : σ'[i]? = some (some u) := by rw [m.fix i hin]; exact start_at q1
          obtain ⟨u', e3, rv⟩ := m.sim.rep i o (outI_lk q4)
          rw [es] at e3; cases e3
          exact ⟨rv, fun _ => ho⟩
        · rw [if_neg ho] at q4
          cases q4
          refine ⟨?_, fun z => absurd z ho⟩
          cases vl with
          | d x => exact RepD.pers pr q2
          | own b => exact absurd rfl ho
          | scr xs =>
            obtain ⟨b, ws, eb, hq, rs⟩ := q2
            exact ⟨b, ws, eb, pr.scL hq, RepDs.pers pr rs⟩
      · cases r with
        | d x => cases e1; exact .inl ⟨x, rfl, at_⟩
        | scr x => cases e1
        | new b =>
          cases e1
          obtain ⟨c, o, ec, hl, rb, _⟩ := at_
          exact .inr ⟨b, c, o, rfl, ec, hl, rb, hf c ec⟩
        | var j =>
          obtain ⟨es, _⟩ := at_
          dsimp only [resF] at e1
          cases e3 : lk ρ' j with
          | none => rw [e3] at e1; cases e1
          | some wl =>
            rw [e3] at e1
            obtain ⟨u, e4, rv⟩ := m.sim.rep j wl e3
            rw [es] at e4; cases e4
            cases wl with
            | scr _ => cases e1
            | d x => cases e1; exact .inl ⟨x, rfl, rv⟩
            | own b =>
              simp only at e1
              split at e1
              · cases e1
              · rename_i hno
                cases e1
                obtain ⟨c, o, ec, hl, rb⟩ := rv
                refine .inr ⟨b, c, o, rfl, ec, hl, rb, ?_⟩
                have hoj : OwnAt ρ' σ' j c := ⟨⟨_, e3, rfl⟩, by rw [es, ec]⟩
                rcases m.sub c ⟨j, hoj⟩ with z | z
                · exfalso
                  obtain ⟨i, vl, h1, h2, h3⟩ := ow_arg c z
                  have hin := ioOk_get hio h1 h2
                  rw [Nat.zero_add] at hin
                  have es' : σ'[i]? = some (some (.ref c)) := by rw [m.fix i hin]; exact start_at h3
                  obtain ⟨o', q3, q4⟩ := l2 i vl h1
                  rw [if_pos h2, Nat.zero_add] at q4
                  have q5 := outI_lk q4
                  cases o' with
                  | own b' =>
                    have := m.sim.one i j c ⟨⟨_, q5, rfl⟩, es'⟩ hoj
                    subst this
                    unfold ownedAt at hno
                    rw [h1] at hno
                    exact hno h2
                  | d x =>
                    obtain ⟨u', e5, rv'⟩ := m.sim.rep i _ q5
                    rw [es'] at e5; cases e5
                    have mu := rb.mu
                    have rv' : RepD K H' (.ref c) x := rv'
                    have hfz : ∃ q u, H' c = some (.frz q u) := by
                      cases rv' with
                      | tup _ _ => unfold outI at q4; rw [q5] at q4; cases q4
                      | lst hq _ => obtain ⟨q, hq⟩ := hq; exact ⟨q, _, hq⟩
                      | dct hq _ _ => obtain ⟨q, hq⟩ := hq; exact ⟨q, _, hq⟩
                      | dtt hq _ _ _ => obtain ⟨q, hq⟩ := hq; exact ⟨q, _, hq⟩
                    obtain ⟨q, u, hfz⟩ := hfz
                    rw [hl] at hfz
                    cases hfz
                    exact mu
                  | scr xs => unfold outI at q4; rw [q5] at q4; cases q4
                · exact z
end
end Mp
set_option maxHeartbeats 1000000
/-! Mp24: defs by their combinators; calls by name. -/
namespace Mp
open PySem PySem.Spec PyProof.Rows L2
theorem pt_w {X : Cx} {e : Expr} {t : TT} (h : PW X e t) : PT X e t := ⟨fun pins s σ H Q I q => h.run _ pins s σ H Q I q⟩
section
variable {P : Program} {w : World} {K : PySem.W.Frag} {mg : Str → Option Value} {base : Heap}
/-- THE RULE: a def whose body is read as m -/
theorem fnG_of {k n : Nat} {f : Addr} {x qual : Str} {pr : Arguments} {bd : List Stmt} {sc : Scope} {dvs : List V} {kws : List (Str × V)} {fd : FuncData} {N ps : List Str} {io : List Nat} {m : MS} (F : FunD K x qual pr bd sc dvs kws f fd) (S : FnScope N ps sc) (hn : ps.length = n)
    (hb : ∀ (cdv : Value) (A : Around) (fr : List PySem.Env) (s : Shared) (H : Hp) (E : XK), Room k (A.deeper (envOfC qual sc s.heap.objs.size f cdv)) → A.guards = some [] → PSs (cxOf C8.CX0 P w K mg base N qual sc f cdv A fr s H E) bd (tS K mg W0 io m)) :
    FnG P w K mg base (k + 1) f fd ps (spF K n (runF N.length io m)) := by
  refine fn_ofG F S (fun vs H Q E h => ?_) (fun cdv A fr s H vs Q E hr hgd h => ⟨_, hb cdv A fr s H E hr hgd, ?_⟩)
  · obtain ⟨vls, r, outs, h1, h2, _⟩ := h
    rw [h2.len, h1, hn]
  · obtain ⟨vls, r, outs, h1, a, e, q⟩ := h
    refine ⟨startE N.length vls, start_sim a, ?_⟩
    unfold runF at e
    split at e
    case isFalse => cases e
    rename_i hio
    have hio := ((Bool.and_eq_true _ _).mp hio).1
    cases e1 : m (startE N.length vls) with
    | stuck => rw [e1] at e; cases e
    | exc z => rw [e1] at e; cases e
    | ok p =>
      obtain ⟨fl, ρ'⟩ := p
      rw [e1] at e
      cases fl with
      | brk => cases e
      | cont => cases e
      | next => exact fun σ' H' m' => q _ H' (fin_post a hio m' (r := .d .none) (show RepD K H' .non .none from .none) trivial e)
      | ret r => exact fun v σ' H' m' at_ hf => q v H' (fin_post a hio m' at_ hf e)
/-- a def that may be called by its name -/
structure CalG (P : Program) (w : World) (K : PySem.W.Frag) (mg : Str → Option Value) (base : Heap) (k : Nat) (x : Str) (ps : List Str) (F : Fn) : Prop where
  ex : ∃ (f : Addr) (fd : FuncData), FnG P w K mg base k f fd ps (spF K ps.length F) ∧ mg x = some (.ref f) ∧ PySem.W.keepIn K (.ref f) = true ∧ Binds K fd ps []
end
section
variable {X : Cx} {k j : Nat} {x : Str} {ps : List Str} {F : Fn} {p pos : Pos} {e : Expr} {es : List Expr} {ms : List M}
theorem mAs_len {ms : List M} : ∀ {ρ ρ1 : Env} {rs : List Rs}, mAs ms ρ = .ok (rs, ρ1) → rs.length = ms.length := by
  induction ms with
  | nil => intro ρ ρ1 rs h; cases h; rfl
  | cons m ms ih =>
    intro ρ ρ1 rs h
    unfold mAs at h
    cases a1 : m ρ with
    | stuck => rw [a1] at h; cases h
    | exc x => rw [a1] at h; cases h
    | ok p =>
      rw [a1] at h
      simp only [Ot.bind] at h
      cases a2 : mAs ms p.2 with
      | stuck => rw [a2] at h; cases h
      | exc x => rw [a2] at h; cases h
      | ok p' =>
        rw [a2] at h
        cases h
        rw [List.length_cons, List.length_cons, ih a2]
theorem pe_mCall (c : CalG X.prog X.w X.K X.mg X.base k x ps F) (hr : Room j X.A) (hkj : k ≤ j) (hgd : X.A.guards = some []) (hg : Gl X x) (hn : ms.length = ps.length) (ha : PA X (e :: es) (tAr X.K X.mg W0 ms)) (hdb : (x == ("__debug__" : Str)) = false)
    (he : starEach (e :: es) X.env = (false, eval e X.env) :: starEach es X.env) (hpl : (backTo pos (starEach es X.env)).any (·.1) = false) : PE X (.Call (.Name x p) (e :: es) [] pos) (tOf X.K X.mg W0 (mCall F ms)) := by
  obtain ⟨f, fd, hF, hm, hk, hb⟩ := c.ex
  exact PE.weak (pe_callG (E := fun _ _ _ => False) (hF.mono hkj) hr hgd hg hm hk hb ha hdb he hpl) fun σ H Q h => tOf_call hn h
end
end Mp
set_option maxHeartbeats 1000000
/-! Mp25: the last rules; names of what is built in. -/
namespace Mp
open PySem PySem.Spec PyProof.Rows L2
def mNo : MS := fun _ => .stuck
theorem ps_mNo {X : Cx} {W : WX} {io : List Nat} {st : Stmt} : PS X st (tS X.K X.mg W io mNo) := PS.weak ps_never fun D σ H ⟨ρ, S, q⟩ => q
/-- - i, written -/
def mNegK (i : Int) : M := mK (.int (-i))
theorem pe_mNegK {X : Cx} {W : WX} {i : Int} {k : Nat} {p pos : Pos} : PE X (.UnaryOp .USub (.Constant (.int i) k p) pos) (tOf X.K X.mg W (mNegK i)) :=
  PE.weak (pe_un un_neg pe_int) fun σ H Q ⟨ρ, S, q⟩ => ⟨i, rfl, q (.int (-i)) H (EPost.refl S (.int (-i)) trivial)⟩
/-- name = [.. for ..] on one line -/
theorem ps_msetLc {X : Cx} {io : List Nat} {i n : Nat} {y : Str} {py : Pos} {elt tg iter : Expr} {ifs : List Expr} {scope : Scope} {own : List (Str × Nat)} {pos spos : Pos} {it : MI} {g : MT} {tt te : M} (hc : X.calm = true) (hN : X.N.Nodup) (hy : X.N[i]? = some y) (hyl : X.env.scope.names.lookup y = some .local)
    (hsw : swapsWith (.ListComp elt [⟨tg, iter, ifs, 0⟩] scope pos) (some (.Name y py)) spos.line X.env = pure true) (hi : PI X tg iter (tI X.K X.mg W0 it)) (ok : BlkOk X.N X.env.scope scope own)
    (hg : ∀ (s : Shared) (H : Hp) (C : Addr) (cl : List (Str × Addr)) (fp : List Addr), PG (X.blk s H scope (compEnvC scope cl C X.env) fp) tg (tG X.K X.mg W0 (outs n (own.map (·.2))) g))
    (ht : ∀ (s : Shared) (H : Hp) (C : Addr) (cl : List (Str × Addr)) (fp : List Addr), PTs (X.blk s H scope (compEnvC scope cl C X.env) fp) ifs (tT X.K X.mg W0 tt))
    (he : ∀ (s : Shared) (H : Hp) (C : Addr) (cl : List (Str × Addr)) (fp : List Addr), PE (X.blk s H scope (compEnvC scope cl C X.env) fp) elt (tOf X.K X.mg W0 te)) (hs : ∀ x, foldedSetIterable iter X.env x = pure x) :
    PS X (.Assign [.Name y py] (.ListComp elt [⟨tg, iter, ifs, 0⟩] scope pos) spos) (tS X.K X.mg W0 io (mSet io i (mLc n it g tt te (own.map (·.2))))) := by
  refine PS.weak (ps_setLc (te := tOf X.K X.mg W0 (mD te)) hc hN hy hyl hsw hi ok hg ht (fun s H C cl fp => pe_mD (X := X.blk s H scope (compEnvC scope cl C X.env) fp) (he s H C cl fp)) hs) fun D σ H ⟨ρ, S, q⟩ => ?_
  refine tOf_lc (W := W0) ⟨ρ, S, ?_⟩
  unfold mSet at q
  cases e1 : mLc n it g tt te (own.map (·.2)) ρ with
  | stuck => rw [e1] at q; exact q.elim
  | exc x => rw [e1] at q; exact q.exc
  | ok p =>
    obtain ⟨r, ρ1⟩ := p
    rw [e1] at q
    simp only [Ot.bind] at q
    have hr : ∃ b, r = .new b := by
      unfold mLc at e1
      cases a1 : it ρ with
      | stuck => rw [a1] at e1; cases e1
      | exc x => rw [a1] at e1; cases e1
      | ok p =>
        rw [a1] at e1
        simp only [Ot.bind] at e1
        split at e1
        case isFalse => cases e1
        revert e1
        generalize (lcGo n g tt te (own.map (·.2)) p.1 (wipeE p.2 (own.map (·.2))) []).nx = o
        intro e1
        cases o with
        | stuck => cases e1
        | exc x => cases e1
        | ok p => cases e1; exact ⟨_, rfl⟩
    obtain ⟨b, er⟩ := hr
    subst er
    dsimp only [asV] at q
    split at q
    · exact q.elim
    · rename_i hc'
      have hc' : io.contains i = false := by simpa using hc'
      intro v H1 p1
      obtain ⟨a, vs, ea, hl, rs, no⟩ := p1.at_
      exact q _ _ (p1.mid.s.set hc' ⟨a, vs, ea, hl, rs⟩ fun _ b eb => ⟨by rw [ea] at eb; cases eb; exact no, p1.fresh b eb⟩)
/-- what is built in stands for itself -/
structure Bt (mg : Str → Option Value) : Prop where
  len : mg "len" = none
  isinstance : mg "isinstance" = none
  all : mg "all" = none
  any : mg "any" = none
  abs : mg "abs" = none
  int : mg "int" = none
  sum : mg "sum" = none
  list : mg "list" = none
  tuple : mg "tuple" = none
  divmod : mg "divmod" = none
  repr : mg "repr" = none
  sorted : mg "sorted" = none
  set : mg "set" = none
  max : mg "max" = none
  min : mg "min" = none
  range : mg "range" = none
  zip : mg "zip" = none
  enumerate : mg "enumerate" = none
  bool : mg "bool" = none
  str : mg "str" = none
def botl : List Str := ["len", "isinstance", "all", "any", "abs", "int", "sum", "list", "tuple", "divmod", "repr", "sorted", "set", "max", "min", "range", "zip", "enumerate", "bool", "str"]
end Mp
set_option maxHeartbeats 1000000
/-! Mp26: the walk's helps. -/
namespace Mp
open PySem PySem.Spec PyProof.Rows L2
theorem rm_of {k : Nat} {A : Around} {env : PySem.Env} (hr : Room (k + 7) (A.deeper env)) (hg : A.guards = some []) : Rm (A.deeper env) := ⟨hr.hd, by have := hr.un; omega, hg⟩
theorem pe_mGi {X : Cx} {W : WX} {x : Str} {i : Int} {pos : Pos} (hg : Gl X x) (h : ∃ t, X.mg x = some (.int i t)) (hd : (x == ("__debug__" : Str)) = false) : PE X (.Name x pos) (tOf X.K X.mg W (mK (.int i))) := by
  obtain ⟨t, h⟩ := h
  exact pe_mglob (v := .int i) hg h ⟨t, rfl⟩ (fun _ => .int i) hd
end Mp
set_option maxHeartbeats 1000000
/-! Mp27: calls with keywords. -/
namespace Mp
open PySem PySem.Spec PyProof.Rows L2
def pickL {α : Type} (ix : List Nat) (xs : List α) : List α := ix.filterMap fun i => xs[i]?
def pickR (rs : List Rs) : List Nat → Option (List Rs)
  | [] => some []
  | i :: ix => match rs[i]?, pickR rs ix with
    | some r, some q => some (r :: q)
    | _, _ => none
def mCallK (F : Fn) (ix : List Nat) (ms mks : List M) : M := fun ρ => (mAs (ms ++ mks) ρ).bind fun p => match pickR p.1 ix with
  | some rs => match argV p.2 rs with
    | some vls => if nodupN (varsR rs) && nodupN ix then match F vls with
        | .ok (r, outs) => .ok (r, putO p.2 rs outs)
        | _ => .stuck
      else .stuck
    | none => .stuck
  | none => .stuck
section
variable {K : PySem.W.Frag} {ρ ρ0 : Env} {σ : L2.St} {H H0 : Hp}
theorem pick_get {vs : List V} {rs : List Rs} (hl : vs.length = rs.length) : ∀ {ix : List Nat} {qs : List Rs}, pickR rs ix = some qs → (pickL ix vs).length = qs.length ∧ qs.length = ix.length ∧ ∀ (i : Nat) (j : Nat), ix[i]? = some j → qs[i]? = rs[j]? ∧ (pickL ix vs)[i]? = vs[j]?
  | [], qs, h => by cases h; exact ⟨rfl, rfl, fun i j h => by simp at h⟩
  | k :: ix, qs, h => by
    unfold pickR at h
    split at h
    · rename_i r q e1 e2
      cases h
      obtain ⟨h1, h2, h3⟩ := pick_get hl e2
      have hk : k < vs.length := by rw [hl]; exact (List.getElem?_eq_some_iff.mp e1).1
      have ev : vs[k]? = some vs[k] := List.getElem?_eq_getElem hk
      have el : pickL (k :: ix) vs = vs[k] :: pickL ix vs := by
        unfold pickL
        rw [List.filterMap_cons, ev]
      refine ⟨by rw [el, List.length_cons, List.length_cons, h1], by rw [List.length_cons, List.length_cons, h2], fun i j hi => ?_⟩
      cases i with
      | zero =>
        simp at hi
        subst hi
        rw [el, e1, ev]
        exact ⟨rfl, rfl⟩
      | succ i =>
        obtain ⟨a, b⟩ := h3 i j (by simpa using hi)
        rw [el]
        exact ⟨by simpa using a, by simpa using b⟩
    · cases h
theorem rsAll_of : ∀ {vs : List V} {rs : List Rs}, vs.length = rs.length → (∀ (i : Nat) v r, vs[i]? = some v → rs[i]? = some r → RsAt K ρ σ H v r) → RsAll K ρ σ H vs rs
  | [], [], _, _ => .nil
  | [], _ :: _, h, _ => by cases h
  | _ :: _, [], h, _ => by cases h
  | v :: vs, r :: rs, h, f => .cons (f 0 v r rfl rfl) (rsAll_of (by simpa using h) fun i v r a b => f (i + 1) v r (by simpa using a) (by simpa using b))
theorem newD_of : ∀ {vs : List V} {rs : List Rs}, vs.length = rs.length → (∀ (i : Nat) v r, vs[i]? = some v → rs[i]? = some r → Fresh H v r) →
    (∀ (i j : Nat) a b c, i ≠ j → rs[i]? = some (Rs.new b) → rs[j]? = some (Rs.new c) → vs[i]? = some (V.ref a) → vs[j]? = some (V.ref a) → False) → NewD H vs rs
  | [], [], _, _, _ => by unfold NewD; trivial
  | [], _ :: _, h, _, _ => by cases h
  | _ :: _, [], h, _, _ => by cases h
  | v :: vs, r :: rs, h, f, g => ⟨f 0 v r rfl rfl, fun a xs er ev i ys hi hv => g 0 (i + 1) a xs ys (by omega) (by simpa using er) (by simpa using hi) (by simpa using ev) (by simpa using hv),
      newD_of (by simpa using h) (fun i v r a b => f (i + 1) v r (by simpa using a) (by simpa using b)) fun i j a b c n h1 h2 h3 h4 => g (i + 1) (j + 1) a b c (by omega) (by simpa using h1) (by simpa using h2) (by simpa using h3) (by simpa using h4)⟩
theorem nodupN_one : ∀ {ix : List Nat} {i j k : Nat}, nodupN ix = true → ix[i]? = some k → ix[j]? = some k → i = j
  | [], _, _, _, _, h, _ => by simp at h
  | x :: ix, 0, 0, _, _, _, _ => rfl
  | x :: ix, 0, j + 1, k, hn, h1, h2 => by
    simp at h1; subst h1
    have hm : x ∈ ix := List.mem_of_getElem? (by simpa using h2)
    simp [nodupN, hm] at hn
  | x :: ix, i + 1, 0, k, hn, h1, h2 => by
    simp at h2; subst h2
    have hm : x ∈ ix := List.mem_of_getElem? (by simpa using h1)
    simp [nodupN, hm] at hn
  | x :: ix, i + 1, j + 1, k, hn, h1, h2 => congrArg (· + 1) (nodupN_one (ix := ix) (by unfold nodupN at hn; exact ((Bool.and_eq_true _ _).mp hn).2) (by simpa using h1) (by simpa using h2))
theorem pick_ok {vs : List V} {rs qs : List Rs} {ix : List Nat} (ra : RsAll K ρ σ H vs rs) (nd : NewD H0 vs rs) (h : pickR rs ix = some qs) (hn : nodupN ix = true) : RsAll K ρ σ H (pickL ix vs) qs ∧ NewD H0 (pickL ix vs) qs := by
  obtain ⟨h1, h2, h3⟩ := pick_get (all_len ra) h
  have ixAt : ∀ (i : Nat) r, qs[i]? = some r → ∃ j, ix[i]? = some j := fun i r hr => get_of_len (xs := ix) h2 hr
  refine ⟨rsAll_of h1 fun i v r a b => ?_, newD_of h1 (fun i v r a b => ?_) fun i j a b c n e1 e2 e3 e4 => ?_⟩
  · obtain ⟨j, hj⟩ := ixAt i r b
    obtain ⟨e1, e2⟩ := h3 i j hj
    rw [e1] at b; rw [e2] at a
    obtain ⟨v', ev, at_⟩ := all_get ra b
    rw [a] at ev; cases ev
    exact at_
  · obtain ⟨j, hj⟩ := ixAt i r b
    obtain ⟨e1, e2⟩ := h3 i j hj
    rw [e1] at b; rw [e2] at a
    exact nd.get a b
  · obtain ⟨k, hk⟩ := ixAt i _ e1
    obtain ⟨l, hl⟩ := ixAt j _ e2
    obtain ⟨a1, a2⟩ := h3 i k hk
    obtain ⟨b1, b2⟩ := h3 j l hl
    rw [a1] at e1; rw [a2] at e3; rw [b1] at e2; rw [b2] at e4
    have := new_one nd e1 e2 e3 e4
    subst this
    exact n (nodupN_one hn hk hl)
theorem all_split : ∀ {ms mks : List M} {ρ : Env}, mAs (ms ++ mks) ρ = (mAs ms ρ).bind fun p => (mAs mks p.2).bind fun q => .ok (p.1 ++ q.1, q.2)
  | [], mks, ρ => by
    show mAs mks ρ = (mAs mks ρ).bind fun q => .ok ([] ++ q.1, q.2)
    cases mAs mks ρ <;> rfl
  | m :: ms, mks, ρ => by
    show (m ρ).bind _ = ((m ρ).bind _).bind _
    cases m ρ with
    | stuck => rfl
    | exc x => rfl
    | ok p =>
      show (mAs (ms ++ mks) p.2).bind _ = ((mAs ms p.2).bind _).bind _
      rw [all_split]
      cases mAs ms p.2 with
      | stuck => rfl
      | exc x => rfl
      | ok p2 =>
        show ((mAs mks p2.2).bind _).bind _ = (mAs mks p2.2).bind _
        cases mAs mks p2.2 <;> rfl
end
/-- the positional arguments, then the keywords' -/
def tCallG (sp : Sp) (ix : List Nat) (E : XK) (t tk : TA) : TE := fun σ H Q => t σ H fun vs H1 => tk σ H1 fun zs H2 => sp (pickL ix (vs ++ zs)) H2 Q E
section
variable {K : PySem.W.Frag} {mg : Str → Option Value} {W : WX} {ρ ρ1 ρ2 : Env} {σ : L2.St} {H H0 H1 H2 : Hp} {Q : VK}
theorem rsAll_app : ∀ {vs zs : List V} {rs qs : List Rs}, RsAll K ρ σ H vs rs → RsAll K ρ σ H zs qs → RsAll K ρ σ H (vs ++ zs) (rs ++ qs)
  | _, _, _, _, .nil, b => b
  | _, _, _, _, .cons a t, b => .cons a (rsAll_app t b)
theorem rsAll_mid (S : Sim K ρ1 σ H1) (m : Mid K ρ1 σ H1 ρ2 H2) : ∀ {vs : List V} {rs : List Rs}, RsAll K ρ1 σ H1 vs rs → RsAll K ρ2 σ H2 vs rs
  | _, _, .nil => .nil
  | _, _, .cons a t => .cons (RsAt.mid S a m) (rsAll_mid S m t)
theorem newD_app (g : ∀ a, H1 a = none → H0 a = none) : ∀ {vs zs : List V} {rs qs : List Rs}, RsAll K ρ σ H1 vs rs → NewD H0 vs rs → NewD H1 zs qs → NewD H0 (vs ++ zs) (rs ++ qs)
  | _, _, _, _, .nil, _, n2 => n2.grow g
  | _, _, _, _, .cons (v := v) (vs := vs) (r := r) (rs := rs) a t, n1, n2 => by
    refine ⟨n1.1, fun c xs er ev i ys hi hv => ?_, newD_app g t n1.2.2 n2⟩
    change (rs ++ _)[i]? = _ at hi
    change (vs ++ _)[i]? = _ at hv
    by_cases hl : i < rs.length
    · rw [List.getElem?_append_left hl] at hi
      rw [List.getElem?_append_left (by rw [all_len t]; exact hl)] at hv
      exact n1.2.1 c xs er ev i ys hi hv
    · rw [List.getElem?_append_right (by omega)] at hi
      rw [List.getElem?_append_right (by rw [all_len t]; omega), all_len t] at hv
      have hf : Fresh H1 (.ref c) (.new ys) := n2.get hv hi
      have hn := hf c rfl
      subst er
      obtain ⟨d, o, ed, hl', _⟩ := a
      rw [ev] at ed
      cases ed
      rw [hn] at hl'
      cases hl'
theorem tAr_app {ms mks : List M} {Q : List V → Hp → Prop} (h : tAr K mg W (ms ++ mks) σ H Q) : tAr K mg W ms σ H fun vs H1 => tAr K mg W mks σ H1 fun zs H2 => Q (vs ++ zs) H2 := by
  obtain ⟨ρ, S, q⟩ := h
  rw [all_split] at q
  refine ⟨ρ, S, ?_⟩
  cases e1 : mAs ms ρ with
  | stuck => rw [e1] at q; exact q.elim
  | exc x => rw [e1] at q; exact q
  | ok p =>
    obtain ⟨rs, ρ1⟩ := p
    rw [e1] at q
    simp only [Ot.bind] at q
    intro vs H1 m1 ra nd
    refine ⟨ρ1, m1.sim, ?_⟩
    cases e2 : mAs mks ρ1 with
    | stuck => rw [e2] at q; exact q.elim
    | exc x =>
      rw [e2] at q
      exact fun cls d H' ex k => q cls d H' ex (m1.keep.trans k fun c z => .inl (m1.sub c z))
    | ok p =>
      obtain ⟨qs, ρ2⟩ := p
      rw [e2] at q
      exact fun zs H2 m2 ra2 nd2 => q (vs ++ zs) H2 (m1.trans m2) (rsAll_app (rsAll_mid m1.sim m2 ra) ra2) (newD_app m1.grow ra nd nd2)
theorem tOf_callK {F : Fn} {ix : List Nat} {ms mks : List M} {n : Nat} {E : XK} (hn : ix.length = n) (h : tOf K mg W (mCallK F ix ms mks) σ H Q) : tCallG (spF K n F) ix E (tAr K mg W ms) (tAr K mg W mks) σ H Q := by
  refine tAr_app (Q := fun vs H2 => spF K n F (pickL ix vs) H2 Q E) ?_
  obtain ⟨ρ, S, q⟩ := h
  unfold mCallK at q
  refine ⟨ρ, S, ?_⟩
  cases e1 : mAs (ms ++ mks) ρ with
  | stuck => rw [e1] at q; exact q.elim
  | exc x => rw [e1] at q; exact q
  | ok p =>
    obtain ⟨rs, ρ1⟩ := p
    rw [e1] at q
    simp only [Ot.bind] at q
    intro vs H1 m1 ra nd
    cases e0 : pickR rs ix with
    | none => rw [e0] at q; exact q.elim
    | some qs =>
      rw [e0] at q
      simp only at q
      cases e2 : argV ρ1 qs with
      | none => rw [e2] at q; exact q.elim
      | some vls =>
        rw [e2] at q
        simp only at q
        split at q
        case isFalse => exact q.elim
        rename_i hnd
        obtain ⟨hnd, hix⟩ := (Bool.and_eq_true _ _).mp hnd
        cases e3 : F vls with
        | stuck => rw [e3] at q; exact q.elim
        | exc x => rw [e3] at q; exact q.elim
        | ok p =>
          obtain ⟨r, outs⟩ := p
          rw [e3] at q
          obtain ⟨ra', nd'⟩ := pick_ok ra nd e0 hix
          have hl := (pick_get (all_len ra) e0).2.1
          exact ⟨vls, r, outs, by rw [argV_len e2, hl]; exact hn, args_ok m1.sim ra' nd' e2 hnd, e3, fun v H' k => q v H' (call_post m1 ra' nd' e2 hnd k)⟩
end
/-- a def that may be called with these keywords -/
structure CalK (P : Program) (w : World) (K : PySem.W.Frag) (mg : Str → Option Value) (base : Heap) (k : Nat) (x : Str) (n : Nat) (ps ks : List Str) (ix : List Nat) (F : Fn) : Prop where
  ex : ∃ (f : Addr) (fd : FuncData), FnG P w K mg base k f fd ps (spF K ps.length F) ∧ mg x = some (.ref f) ∧ PySem.W.keepIn K (.ref f) = true ∧ ∀ (s : Shared) (us ws : List Value), us.length = n → ws.length = ks.length → BindsTo s fd ⟨us, ks.zip ws⟩ (ps.zip (pickL ix (us ++ ws)))
section
variable {X : Cx} {k j : Nat} {x : Str} {ps ks : List Str} {F : Fn} {ix : List Nat} {p pos : Pos} {es : List Expr} {kws : List Keyword} {ms mks : List M}
theorem vals_pick {vs : List V} {us : List Value} (r : Vals vs us) : ∀ ix : List Nat, Vals (pickL ix vs) (pickL ix us)
  | [] => .nil
  | i :: ix => by
    have ih := vals_pick r ix
    unfold pickL at ih ⊢
    rw [List.filterMap_cons, List.filterMap_cons]
    cases e : vs[i]? with
    | none =>
      have hl := r.length
      have : us[i]? = none := List.getElem?_eq_none (by have := List.getElem?_eq_none_iff.mp e; omega)
      rw [this]
      exact ih
    | some v =>
      obtain ⟨u, eu, ru⟩ := r.get e
      rw [eu]
      exact .cons ru ih
/-- f(k = v, ..) -/
theorem pe_mCallK0 (c : CalK X.prog X.w X.K X.mg X.base k x 0 ps ks ix F) (hr : Room j X.A) (hkj : k ≤ j) (hgd : X.A.guards = some []) (hg : Gl X x) (hn : ix.length = ps.length) (hmk : mks.length = ks.length) (hk : PK X kws (tAr X.K X.mg W0 mks)) (hdb : (x == ("__debug__" : Str)) = false)
    (hall : (backToKw pos (keywordEach kws X.env)).all (·.1.isSome) = true) (hks : (backToKw pos (keywordEach kws X.env)).filterMap (·.1) = ks) (hpl : ((backTo pos (starEach [] X.env)).any (·.1) || (backToKw pos (keywordEach kws X.env)).any (·.1.isNone)) = false) :
    PE X (.Call (.Name x p) [] kws pos) (tOf X.K X.mg W0 (mCallK F ix [] mks)) := by
  obtain ⟨f, fd, hF, hm, hkp, hb⟩ := c.ex
  refine ⟨fun pins s σ H Q I h => ?_⟩
  have h := tOf_callK (E := fun _ _ _ => False) hn h
  obtain ⟨ρ, S, h⟩ := h
  have h : tAr X.K X.mg W0 mks σ H fun zs H2 => spF X.K ps.length F (pickL ix ([] ++ zs)) H2 Q fun _ _ _ => False := h [] H (Mid.refl S) .nil trivial
  refine wpAny_Call_Name_kw (ld_glob I hg hm (PySem.W.callWith_KW0 (h₀ := X.base) I.ok.mod.kin hkp hall (thn (hk.run pos pins s σ H _ I (show tAr X.K X.mg W0 mks σ H (fun zs H2 => zs.length = ks.length ∧ spF X.K ps.length F (pickL ix ([] ++ zs)) H2 Q fun _ _ _ => False) from ?_)) fun ws s2 ⟨zs, H2, I2, rz, hzl, q2⟩ => ⟨I2.kIn, ?_⟩) hpl) hdb)
  · obtain ⟨ρ, S, q⟩ := h
    refine ⟨ρ, S, ?_⟩
    cases e1 : mAs mks ρ with
    | stuck => rw [e1] at q; exact q.elim
    | exc x => rw [e1] at q; exact q
    | ok p =>
      obtain ⟨rs, ρ1⟩ := p
      rw [e1] at q
      exact fun vs H' m ra nd => ⟨by rw [all_len ra, mAs_len e1]; exact hmk, q vs H' m ra nd⟩
  · rw [hks, List.nil_append] at *
    have hbd := hb s2 [] ws rfl (by rw [← rz.length]; exact hzl)
    rw [List.nil_append] at hbd
    refine wpAny_call (codeAny_mono (runG (E := fun _ _ _ => False) (hF.mono hkj) hr hgd hbd I2 (vals_pick rz ix) (by simpa using q2)) fun re s' hq => ?_)
    match re, hq with
    | .error _, hq => exact hq
    | .ok (.ret u), hq => exact hq
    | .ok .next, hq => exact hq.elim
    | .ok .brk, hq => exact hq.elim
    | .ok .cont, hq => exact hq.elim
theorem pk_mnil : PK X [] (tAr X.K X.mg W0 []) := ⟨fun pos pins s σ H Q I ⟨ρ, S, q⟩ => pk_nil.run pos pins s σ H Q I (q [] H (Mid.refl S) .nil trivial)⟩
theorem pk_mcons {e : Expr} {nm : Option Str} {kpos : Pos} {m : M} (ha : PE X e (tOf X.K X.mg W0 m)) (hr : PK X kws (tAr X.K X.mg W0 mks)) : PK X (⟨nm, e, kpos⟩ :: kws) (tAr X.K X.mg W0 (m :: mks)) :=
  ⟨fun pos pins s σ H Q I h => (pk_cons ha hr).run pos pins s σ H Q I (tAr_cons h)⟩
end
end Mp
set_option maxHeartbeats 1000000
/-! Mp28: list(range(..)), len(set(..)). -/
namespace Mp
open PySem PySem.Spec PyProof.Rows L2 PySem.W
/-- len(set(xs)), xs ints -/
def gLS (ds : List D) : Option Nat := match intsOf ds with
  | some ns => if ns.length < 1000 then some (dd (isort ds)).length else none
  | none => none
def mLS (m : M) : M := fun ρ => (m ρ).bind fun p => match pk p.2 p.1 with
  | some (.list ds) => match gLS ds with
    | some n => .ok (.d (.int n), p.2)
    | none => .stuck
  | _ => .stuck
theorem strict_nodup : ∀ {l : List D}, (l.Pairwise fun a b => leD b a = false) → l.Nodup := fun h => h.imp fun {a b} h e => by
  subst e
  rw [leD_refl] at h
  cases h
section
variable {X : Cx} {W : WX} {e : Expr} {pos pos2 p1 p2 : Pos} {m : M}
theorem pe_mLS (hc : X.calm = true) (hg : Gl X "len") (hm : X.mg "len" = none) (hg2 : Gl X "set") (hm2 : X.mg "set" = none) (he : PE X e (tOf X.K X.mg W m))
    (hs : starEach [e] X.env = (false, eval e X.env) :: starEach [] X.env) : PE X (.Call (.Name "len" p1) [.Call (.Name "set" p2) [e] [] pos2] [] pos) (tOf X.K X.mg W (mLS m)) := by
  refine ⟨fun pins s σ H Q I ⟨ρ, S, q⟩ => ?_⟩
  refine Call_ (ld_blt I hg hm PySem.boot_len (PyProof.Rows.callWith_builtin1 (PyProof.Rows.args_cons ?_ rfl) rfl rfl))
  refine Call_ (ld_blt I hg2 hm2 PyProof.Rows.boot_set (PyProof.Rows.callWith_type1 (PyProof.Rows.args_cons (thn (he.run pins s σ H (fun v H1 => ∃ (l : Addr) (ns : List Int), v = .ref l ∧ SqL X.K H1 l (ns.map V.int) ∧ ns.length < 1000 ∧ Q (.int ((dd (isort (ns.map .int))).length : Nat)) H1) I ⟨ρ, S, ?_⟩) fun v s1 ⟨x, H1, I1, r1, q1⟩ => PyProof.Rows.args_nil ?_) hs) hs rfl))
  · unfold mLS at q
    cases e1 : m ρ with
    | stuck => rw [e1] at q; exact q.elim
    | exc x => rw [e1] at q; exact q
    | ok p =>
      obtain ⟨r, ρ1⟩ := p
      rw [e1] at q
      simp only [Ot.bind] at q
      intro v H1 p1
      cases e2 : pk ρ1 r with
      | none => rw [e2] at q; exact q.elim
      | some x =>
        rw [e2] at q
        cases x <;> try (exact q.elim)
        rename_i ds
        simp only at q
        unfold gLS at q
        cases e3 : intsOf ds with
        | none => rw [e3] at q; exact q.elim
        | some ns =>
          rw [e3] at q
          simp only at q
          have ed := intsOf_some e3
          by_cases hl : ns.length < 1000
          · rw [if_pos hl] at q
            obtain ⟨a, vs, rfl, hq, rs⟩ := (pk_rep p1.sim p1.at_ e2).sq
            rw [ed] at rs
            have ev := reps_ints rs
            subst ev
            rw [ed] at q
            exact ⟨a, ns, rfl, hq, hl, q _ H1 (p1.mid.post (.int _) trivial)⟩
          · rw [if_neg hl] at q
            exact q.elim
  · obtain ⟨l, ns, rfl, hq, hl, q1⟩ := q1
    cases r1
    obtain ⟨its, r, pl, hz⟩ := I1.list hq
    refine set_of_list ns (I1.ok.hd hc) pl.isList (by simpa using r.ints) (by unfold scanBound; omega) fun h' tk c R hcl k => ?_
    refine PyProof.Rows.args_nil ?_
    obtain ⟨o, es, ep, t, ho, hex, hd, g, nd, hmem, hb, hf, hn, hr, hl'⟩ := R
    have I2 : Inv X pins σ H1 { s1 with heap := h', toks := tk } := I1.kept fun b o e => k b o e
    have hcount : (es.size : Int) = ((dd (isort (ns.map .int))).length : Nat) := by
      have p1 : (es.toList.map keyOf).map PyData.int |>.Perm (dd (isort (ns.map .int))) := by
        have n1 : ((es.toList.map keyOf).map PyData.int).Nodup := by
          exact List.pairwise_map.mpr (nd.imp fun h e => h (by cases e; rfl))
        have n2 := strict_nodup (dd_strict (isort_sorted (ns.map .int)))
        refine (List.perm_ext_iff_of_nodup n1 n2).mpr fun z => ?_
        have hz : z ∈ dd (isort (ns.map PyData.int)) ↔ z ∈ ns.map PyData.int := ⟨fun h => isort_mem.mp (dd_sub h), fun h => dd_mem (fun a ha b hb => int_anti a (isort_mem.mp ha) b (isort_mem.mp hb)) (isort_sorted _) (isort_mem.mpr h)⟩
        rw [hz, List.mem_map, List.mem_map]
        constructor
        · rintro ⟨j, hj, rfl⟩
          exact ⟨j, by simpa using (hmem j).mpr hj, rfl⟩
        · rintro ⟨j, hj, rfl⟩
          exact ⟨j, (hmem j).mp (by simpa using hj), rfl⟩
      have := p1.length_eq
      rw [List.length_map, List.length_map, Array.length_toList] at this
      rw [this]
    refine call_len_set ho hex hd hf (by unfold scanBound at hb; omega) ⟨.int _, H1, I2.tok _, ⟨_, rfl⟩, ?_⟩
    rw [hcount]
    exact q1
end
/-! ### list(range(..)) -/
def lrOk (j : Int) : Bool := decide (-100000 ≤ j) && decide (j ≤ 100000)
def mLR1 (m : M) : M := fun ρ => (m ρ).bind fun p => match p.1 with
  | .d (.int j) => if lrOk j then .ok (.new (.lst (intsD 0 j.toNat)), p.2) else .stuck
  | _ => .stuck
def mLR2 (a b : M) : M := fun ρ => (a ρ).bind fun p => (b p.2).bind fun q => match p.1, q.1 with
  | .d (.int i), .d (.int j) => if lrOk i && lrOk j then .ok (.new (.lst (intsD i (j - i).toNat)), q.2) else .stuck
  | _, _ => .stuck
theorem rg_rep {K : PySem.W.Frag} {H : Hp} (a b : Int) : RepDs K H (rgV a b) (intsD a (b - a).toNat) := by
  unfold rgV intsD
  generalize List.range (b - a).toNat = l
  induction l with
  | nil => exact .nil
  | cons x l ih => exact .cons (.int _) ih
section
variable {X : Cx} {W : WX} {e e2 : Expr} {pos pos2 p1 p2 : Pos} {m ma mb : M}
theorem pe_mLR1 (hc : X.calm = true) (hg : Gl X "list") (hm : X.mg "list" = none) (hg2 : Gl X "range") (hm2 : X.mg "range" = none) (he : PE X e (tOf X.K X.mg W m)) (hs : starEach [e] X.env = (false, eval e X.env) :: starEach [] X.env)
    (na : starEach [.Call (.Name "range" p2) [e] [] pos2] X.env = (false, eval (.Call (.Name "range" p2) [e] [] pos2) X.env) :: starEach [] X.env) : PE X (.Call (.Name "list" p1) [.Call (.Name "range" p2) [e] [] pos2] [] pos) (tOf X.K X.mg W (mLR1 m)) := by
  refine PE.weak (pe_listRg hc hg hm (prg_1 hg2 hm2 he hs) na) fun σ H Q ⟨ρ, S, q⟩ => ⟨ρ, S, ?_⟩
  unfold mLR1 at q
  cases e1 : m ρ with
  | stuck => rw [e1] at q; exact q.elim
  | exc x => rw [e1] at q; exact q
  | ok p =>
    obtain ⟨r, ρ1⟩ := p
    rw [e1] at q
    simp only [Ot.bind] at q
    intro v H1 p1
    cases r <;> try (exact q.elim)
    rename_i x
    cases x <;> try (exact q.elim)
    rename_i j
    simp only at q
    split at q
    case isFalse => exact q.elim
    rename_i hj
    unfold lrOk at hj
    simp only [Bool.and_eq_true, decide_eq_true_eq] at hj
    cases (show RepD X.K H1 v (.int j) from p1.at_)
    refine ⟨j, rfl, ⟨by omega, by omega, by omega, by omega, by omega⟩, fun c hc => ?_⟩
    have hr := rg_rep (K := X.K) (H := upd H1 c (.lst (rgV 0 j))) 0 j
    rw [Int.sub_zero] at hr
    refine q _ _ ((p1.mid.trans (Mid.updN p1.sim hc)).post ⟨c, .lst _, rfl, upd_same, hr, p1.sim.not_ow hc⟩ fun a e => ?_)
    cases e
    exact p1.grow _ hc
theorem pe_mLR2 (hc : X.calm = true) (hg : Gl X "list") (hm : X.mg "list" = none) (hg2 : Gl X "range") (hm2 : X.mg "range" = none) (ha : PE X e (tOf X.K X.mg W ma)) (hb : PE X e2 (tOf X.K X.mg W mb)) (hs : starEach [e, e2] X.env = (false, eval e X.env) :: starEach [e2] X.env)
    (hs2 : starEach [e2] X.env = (false, eval e2 X.env) :: starEach [] X.env) (hpl : (backTo pos2 (starEach [e2] X.env)).any (·.1) = false)
    (na : starEach [.Call (.Name "range" p2) [e, e2] [] pos2] X.env = (false, eval (.Call (.Name "range" p2) [e, e2] [] pos2) X.env) :: starEach [] X.env) : PE X (.Call (.Name "list" p1) [.Call (.Name "range" p2) [e, e2] [] pos2] [] pos) (tOf X.K X.mg W (mLR2 ma mb)) := by
  refine PE.weak (pe_listRg hc hg hm (prg_2 hg2 hm2 ha hb hs hs2 hpl) na) fun σ H Q ⟨ρ, S, q⟩ => ⟨ρ, S, ?_⟩
  unfold mLR2 at q
  cases e1 : ma ρ with
  | stuck => rw [e1] at q; exact q.elim
  | exc x => rw [e1] at q; exact q
  | ok p =>
    obtain ⟨r1, ρ1⟩ := p
    rw [e1] at q
    simp only [Ot.bind] at q
    intro x H1 p1
    refine ⟨ρ1, p1.sim, ?_⟩
    cases e2 : mb ρ1 with
    | stuck => rw [e2] at q; exact q.elim
    | exc x =>
      rw [e2] at q
      exact fun cls d H' ex k => q cls d H' ex (p1.keep.trans k fun c z => .inl (p1.sub c z))
    | ok p =>
      obtain ⟨r2, ρ2⟩ := p
      rw [e2] at q
      simp only at q
      intro y H2 p2
      have a1 := RsAt.mid p1.sim p1.at_ p2.mid
      cases r1 <;> try (exact q.elim)
      rename_i dx
      cases dx <;> try (exact q.elim)
      rename_i i
      cases r2 <;> try (exact q.elim)
      rename_i dy
      cases dy <;> try (exact q.elim)
      rename_i j
      simp only at q
      split at q
      case isFalse => exact q.elim
      rename_i hj
      unfold lrOk at hj
      simp only [Bool.and_eq_true, decide_eq_true_eq] at hj
      cases (show RepD X.K H2 x (.int i) from a1)
      cases (show RepD X.K H2 y (.int j) from p2.at_)
      refine ⟨i, j, rfl, rfl, ⟨by omega, by omega, by omega, by omega, by omega⟩, fun c hc => ?_⟩
      have mm := p1.mid.trans p2.mid
      refine q _ _ ((mm.trans (Mid.updN mm.sim hc)).post ⟨c, .lst _, rfl, upd_same, rg_rep i j, mm.sim.not_ow hc⟩ fun a e => ?_)
      cases e
      exact mm.grow _ hc
end
end Mp
set_option maxHeartbeats 1000000
/-! Mp29: a law's end. -/
namespace Mp
open PySem PySem.Spec PyProof.Rows L2
def lawEnd (s1 : Shared) (r : Result) (s' : Shared) : Prop := r = .ok (.ret (.bool true)) ∧ OldK s1.heap s'.heap ∧ s'.os = s1.os ∧ AllBare s'.gens
/-- what the law's def promises of a script -/
theorem sp_scr {K : PySem.W.Frag} {F : Fn} {H : Hp} {a : Addr} {vs : List V} {xs : List D} {outs : List Vl} {E : XK} (hF : F [.scr xs] = .ok (.d (.bool true), outs)) (h : ScL K H a vs) (r : RepDs K H vs xs) : spF K 1 F [.ref a] H (fun v _ => v = .bl true) E := by
  refine ⟨[.scr xs], _, outs, rfl, ⟨rfl, fun i vl e => ?_, fun i j vl wl b e o => ?_⟩, hF, fun v H' k => ?_⟩
  · cases i with
    | zero => cases e; exact ⟨_, rfl, a, vs, rfl, h, r⟩
    | succ i => simp at e
  · cases i with
    | zero => cases e; cases o
    | succ i => simp at e
  · rcases k.res with ⟨x, e, rx⟩ | ⟨b, a, o, e, _⟩
    · cases e
      cases rx
      rfl
    · cases e
theorem law_callG {P : Program} {w : World} {K : PySem.W.Frag} {mg mb : Str → Option Value} {k : Nat} {fa a : Addr} {fd : FuncData} {x : Str} {F : Fn} {s1 : Shared} {vs : List Value} {ns : List Int} {outs : List Vl}
    (kin : K.In s1.heap) (nsG : s1.heap.Ns mainGlobals mg) (nsB : s1.heap.Ns builtinsNs mb) (bot : ∀ x : Str, x ≠ "__name__" → mb x = bootBuiltins x) (lim : s1.heap.NoLimit) (gens : s1.gens = #[])
    (obj : s1.heap.get? a = some { cls := .type "list", data := .seq vs.toArray }) (inV : IntsAre vs ns) (short : ns.length ≤ sizeLine) (room : Room k callerA)
    (hG : ∀ base : Heap, K.In base → base.Ns mainGlobals mg → FnG P w K mg base k fa fd [x] (spF K 1 F)) (binds : ∀ (s : Shared) (u : Value), BindsTo s fd ⟨[u], []⟩ [(x, u)])
    (hF : F [.scr (ns.map .int)] = .ok (.d (.bool true), outs)) :
    codeAny (model P w) callerA (.call (.ref fa) ⟨[.ref a], []⟩) (lawEnd s1) s1 := by
  have rv := vals_ints inV
  have hlen := inV.length
  have go : ∀ G : Hp, Only G → ScL K G a (ns.map V.int) → HOk P w G s1.heap → (∀ b, G b ≠ none → b = a) → (G a ≠ none → K.lookup a = none) → codeAny (model P w) callerA (.call (.ref fa) ⟨[.ref a], []⟩) (lawEnd s1) s1 := by
    intro G only scr hok here offK
    have keepH : ∀ {b : Addr} {o : Obj}, s1.heap.get? b = some o → G b = none → (hidT s1.heap G).get? b = some o := fun e n => hidT_get e n
    have noD : ∀ {b : Addr} {o : Obj} {es : Array DictEntry} {ep : Nat}, s1.heap.get? b = some o → o.data = .dict es ep → G b = none := by
      intro b o es ep e d
      cases q : G b with
      | none => rfl
      | some u =>
        have eb : b = a := here b (by rw [q]; simp)
        subst eb
        rw [obj] at e
        cases e
        have dd : Data.seq vs.toArray _ = Data.dict es ep := d
        cases dd
    have nsH : ∀ {b : Addr} {m : Str → Option Value}, s1.heap.Ns b m → (hidT s1.heap G).Ns b m := by
      rintro b m ⟨o, es, ep, e, d, r⟩
      exact ⟨o, es, ep, keepH e (noD e d), d, r⟩
    have kinH : K.In (hidT s1.heap G) := by
      intro b o e
      refine keepH (kin b o e) ?_
      cases q : G b with
      | none => rfl
      | some u =>
        have eb : b = a := here b (by rw [q]; simp)
        subst eb
        rw [offK (by rw [q]; simp)] at e
        cases e
    have limH : (hidT s1.heap G).NoLimit := by
      obtain ⟨mc, l1, l2⟩ := lim
      exact ⟨mc, nsH l1, l2⟩
    have ent : Env0 P w K mg (hidT s1.heap G) callerA [] s1 G := ⟨rfl, ⟨kinH, nsH nsG, ⟨mb, nsH nsB, bot⟩, limH⟩, fun b o e => of_hidT e, Nat.le_of_eq (hidT_size _ _), trivial, fun b hb => absurd (show b ∈ ([] : List Addr) from hb) (by simp), hok, .of_eq gens⟩
    refine codeAny_mono ((hG _ kinH (nsH nsG)).run callerA [] s1 G ⟨[.ref a], []⟩ [.ref a] [.ref a] (fun v _ => v = .bl true) (fun _ _ _ => False) room rfl ent (binds s1 (.ref a)) (.cons rfl .nil) (sp_scr hF scr (ints_reps ns))) fun r s' h => ?_
    match r, h with
    | .error _, h => exact False.elim h
    | .ok .next, h => exact False.elim h
    | .ok .brk, h => exact False.elim h
    | .ok .cont, h => exact False.elim h
    | .ok (.ret u), ⟨v, G', os, bare, un, hok', r', q⟩ =>
      have ev : v = .bl true := q
      subst ev
      obtain rfl : u = Value.bool true := r'
      refine ⟨rfl, OldK.of_keep fun b o e => ?_, os, bare⟩
      cases q : G b with
      | none => exact un.keep b o e q (fun z => absurd (show b ∈ ([] : List Addr) from z) (by simp)) (by simp)
      | some u =>
        rcases only b with z | ⟨ob, xs, z⟩
        · rw [q] at z; cases z
        · obtain ⟨e1, _⟩ := hok b _ z
          obtain ⟨e2, _⟩ := hok' b _ (un.frzs b ob _ z)
          rw [e] at e1
          cases e1
          exact e2
  cases hk : K.lookup a with
  | some o =>
    have e := kin a o hk
    rw [obj] at e
    cases e
    exact go (fun _ => none) (fun _ => .inl rfl) (.inr ⟨_, vs.toArray, _, hk, rfl, rfl, rfl, by rw [List.size_toArray, hlen]; exact short, by simpa using rv⟩) (fun b u z => by have zz : (none : Option HO) = some u := z; cases zz) (fun b z => absurd rfl z) fun z => absurd rfl z
  | none =>
    refine go (fun b => if b = a then some (.frz { cls := .type "list", data := .seq vs.toArray } (.lst (ns.map V.int))) else none) (fun b => ?_) (.inl ⟨{ cls := .type "list", data := .seq vs.toArray }, if_pos rfl⟩) (fun b u z => ?_) (fun b z => ?_) fun _ => hk
    · by_cases eb : b = a
      · exact .inr ⟨_, _, if_pos eb⟩
      · exact .inl (if_neg eb)
    · by_cases eb : b = a
      · have zz := (if_pos eb).symm.trans z
        cases zz
        subst eb
        exact ⟨obj, by rw [List.length_map]; exact short, vs, _, rv, obj⟩
      · have zz := (if_neg eb).symm.trans z
        cases zz
    · by_cases eb : b = a
      · exact eb
      · exact absurd (if_neg eb) z
theorem walk_ofG {l : PySem.W.OpenLaw} {n k : Nat} {q : Program} {loose : List Str} {XP : (Str → Option Value) → Heap → Prop} {YP : World → Heap → Prop} {d : DefRec} {x : Str} {F : Fn}
    (hn : l.most = some n) (hn2 : n ≤ sizeLine) (hdf : d.params.defaults = []) (hr : Room k callerA)
    (hF : ∀ ns : List Int, ns.length ≤ n → ∃ outs, F [.scr (ns.map .int)] = .ok (.d (.bool true), outs))
    (hG : ∀ (w : World) (mg : Str → Option Value) (fa : Addr) (h : Heap), YP w h → h.Ns mainGlobals mg → mg d.name = some (.ref fa) →
      ∃ (K : PySem.W.Frag) (fd : FuncData), K.In h ∧ (∀ (s : Shared) (u : Value), BindsTo s fd ⟨[u], []⟩ [(x, u)]) ∧ ∀ base : Heap, K.In base → base.Ns mainGlobals mg → FnG l.prog w K mg base k fa fd [x] (spF K 1 F)) :
    PySem.W.WalkO q loose XP YP l.row.toRowW d [] (fun f vs => PySem.call f vs) := by
  refine Att.attach_call hn hdf fun w s0 s1 mg mb fa o pm cd doc a vs ns G Y ho hd hcd hmg hobj hints hlen hg => ?_
  obtain ⟨K, fd, kin, hb, hf⟩ := hG w mg fa _ Y G.T.g hmg
  obtain ⟨outs, e⟩ := hF ns hlen
  exact law_callG kin G.T.g G.T.b G.T.builtins G.T.nolimit hg hobj hints (Nat.le_trans hlen hn2) hr hf hb e
end Mp
set_option maxHeartbeats 1000000
/-! Mp31: the plain side: loops and comprehensions over data. -/
namespace Mp
open PySem PySem.Spec PyProof.Rows L2
@[simp] theorem bind_ok {α β : Type} (a : α) (f : α → Ot β) : (Ot.ok a).bind f = f a := rfl
theorem env_ext : ∀ {ρ ρ' : Env}, ρ.length = ρ'.length → (∀ i, lk ρ i = lk ρ' i) → ρ = ρ'
  | [], [], _, _ => rfl
  | [], _ :: _, h, _ => by cases h
  | _ :: _, [], h, _ => by cases h
  | a :: r, b :: q, h, f => by
    have e0 : a = b := f 0
    rw [e0, env_ext (ρ := r) (ρ' := q) (by simpa using h) fun i => f (i + 1)]
theorem rest_wipe (ρ : Env) (vs : List Nat) : restE ρ (wipeE ρ vs) vs = ρ := by
  refine env_ext (by rw [restE_len, wipeE_len]) fun i => ?_
  by_cases h : i ∈ vs
  · exact lk_rest_in (wipeE_len ρ vs).symm h
  · rw [lk_rest_out h, lk_wipe_out h]
/-- a comprehension that changes nothing: by a test p and a value h -/
theorem lcGo_pure {n : Nat} {g : MT} {tt te : M} {vs : List Nat} {A : Env} {p : D → Bool} {h : D → D} : ∀ (xs acc : List D),
    (∀ x ∈ xs, ∃ A1, g x A = .ok A1 ∧ A1.length = n ∧ tt A1 = .ok (.d (.bool (p x)), A1) ∧ wipeE A1 vs = A ∧ (p x = true → mD te A1 = .ok (.d (h x), A1))) → acc.length + xs.length ≤ sizeLine →
    lcGo n g tt te vs xs A acc = .ok (acc ++ (xs.filter p).map h, A)
  | [], acc, _, _ => by
    unfold lcGo
    simp
  | x :: xs, acc, hx, hz => by
    obtain ⟨A1, e1, e2, e3, e4, e5⟩ := hx x List.mem_cons_self
    rw [List.length_cons] at hz
    unfold lcGo
    rw [e1]
    simp only [Ot.nx, bind_ok]
    rw [if_pos e2, e3]
    simp only [bind_ok]
    cases hp : p x with
    | false =>
      simp only [bo]
      rw [e4, lcGo_pure xs acc (fun y hy => hx y (List.mem_cons_of_mem _ hy)) (by omega), List.filter_cons_of_neg (by rw [hp]; exact Bool.false_ne_true)]
    | true =>
      simp only [bo]
      rw [e5 hp]
      simp only [bind_ok]
      rw [if_pos (by omega), e4, lcGo_pure xs (acc ++ [h x]) (fun y hy => hx y (List.mem_cons_of_mem _ hy)) (by rw [List.length_append, List.length_singleton]; omega), List.filter_cons_of_pos hp]
      simp
theorem mLc_pure {n : Nat} {it : MI} {g : MT} {tt te : M} {vs : List Nat} {ρ ρ1 : Env} {xs : List D} {p : D → Bool} {h : D → D} (hi : it ρ = .ok (xs, ρ1)) (hn : ρ1.length = n)
    (hx : ∀ x ∈ xs, ∃ A1, g x (wipeE ρ1 vs) = .ok A1 ∧ A1.length = n ∧ tt A1 = .ok (.d (.bool (p x)), A1) ∧ wipeE A1 vs = wipeE ρ1 vs ∧ (p x = true → mD te A1 = .ok (.d (h x), A1))) (hz : xs.length ≤ sizeLine) :
    mLc n it g tt te vs ρ = .ok (.new (.lst ((xs.filter p).map h)), ρ1) := by
  unfold mLc
  rw [hi]
  simp only [bind_ok]
  rw [if_pos hn, lcGo_pure xs [] hx (by simpa using hz)]
  simp only [Ot.nx, bind_ok, List.nil_append]
  rw [rest_wipe]
/-- a loop by an invariant: no break, no return -/
theorem forGo_inv {g : MT} {b : MS} (P : Nat → Env → Prop) : ∀ (xs : List D) (k : Nat) (ρ : Env), P k ρ →
    (∀ i x ρ, xs[i]? = some x → P (k + i) ρ → ∃ ρ' f, (g x ρ).bind b = .ok (f, ρ') ∧ (f = .next ∨ f = .cont) ∧ P (k + i + 1) ρ') → ∃ ρ', forGo g b xs ρ = .ok (.next, ρ') ∧ P (k + xs.length) ρ'
  | [], k, ρ, h, _ => ⟨ρ, rfl, h⟩
  | x :: xs, k, ρ, h, st => by
    obtain ⟨ρ', f, e, hf, h'⟩ := st 0 x ρ rfl h
    obtain ⟨ρ2, e2, h2⟩ := forGo_inv P xs (k + 1) ρ' h' fun i y ρ hy hp => by
      have := st (i + 1) y ρ (by simpa using hy) (by rw [show k + (i + 1) = k + 1 + i from by omega]; exact hp)
      rw [show k + (i + 1) + 1 = k + 1 + i + 1 from by omega] at this
      exact this
    refine ⟨ρ2, ?_, by rw [List.length_cons, show k + (xs.length + 1) = k + 1 + xs.length from by omega]; exact h2⟩
    unfold forGo
    cases e1 : g x ρ with
    | stuck => rw [e1] at e; cases e
    | exc z => rw [e1] at e; cases e
    | ok ρ1 =>
      rw [e1] at e
      simp only [bind_ok] at e ⊢
      rw [e]
      simp only [bind_ok]
      rcases hf with hf | hf <;> (subst hf; exact e2)
/-- a loop whose turns may end the def: a test q tells the first that does, with r -/
theorem forGo_find {g : MT} {b : MS} {q : D → Bool} {r : Rs} {I : Env → Prop} : ∀ (xs : List D) (ρ : Env), I ρ →
    (∀ x ∈ xs, ∀ ρ, I ρ → if q x then ∃ ρ', (g x ρ).bind b = .ok (.ret r, ρ') ∧ I ρ' else ∃ ρ', (g x ρ).bind b = .ok (.next, ρ') ∧ I ρ') →
    if xs.any q then ∃ ρ', forGo g b xs ρ = .ok (.ret r, ρ') ∧ I ρ' else ∃ ρ', forGo g b xs ρ = .ok (.next, ρ') ∧ I ρ'
  | [], ρ, h, _ => ⟨ρ, rfl, h⟩
  | x :: xs, ρ, h, st => by
    have s0 := st x List.mem_cons_self ρ h
    have run : ∀ f ρ', (g x ρ).bind b = .ok (f, ρ') → forGo g b (x :: xs) ρ = (match f with
        | .next => forGo g b xs ρ'
        | .cont => forGo g b xs ρ'
        | .brk => .ok (.next, ρ')
        | .ret r => .ok (.ret r, ρ')) := fun f ρ' e => by
      rw [forGo]
      cases e1 : g x ρ with
      | stuck => rw [e1] at e; cases e
      | exc z => rw [e1] at e; cases e
      | ok ρ1 =>
        rw [e1] at e
        simp only [bind_ok] at e ⊢
        rw [e]
        simp only [bind_ok]
        all_goals (cases f <;> rfl)
    rw [List.any_cons]
    cases hq : q x with
    | true =>
      rw [hq] at s0
      obtain ⟨ρ', e, h'⟩ := s0
      rw [Bool.true_or]
      exact ⟨ρ', run _ _ e, h'⟩
    | false =>
      rw [hq] at s0
      obtain ⟨ρ', e, h'⟩ := s0
      rw [Bool.false_or]
      have ih := forGo_find (r := r) (I := I) xs ρ' h' fun y hy => st y (List.mem_cons_of_mem _ hy)
      rw [run _ _ e]
      exact ih
/-- a comprehension whose items have effects on what the names own: by an invariant; no test -/
theorem lcGo_inv {n : Nat} {g : MT} {tt te : M} {vs : List Nat} {P : Env → Prop} {R : D → D → Prop} : ∀ (xs acc : List D) (A : Env), P A →
    (∀ x ∈ xs, ∀ A, P A → ∃ A1 A2 y, g x A = .ok A1 ∧ A1.length = n ∧ tt A1 = .ok (.d (.bool true), A1) ∧ mD te A1 = .ok (.d y, A2) ∧ P (wipeE A2 vs) ∧ R x y) → acc.length + xs.length ≤ sizeLine →
    ∃ ys A', lcGo n g tt te vs xs A acc = .ok (acc ++ ys, A') ∧ P A' ∧ ys.length = xs.length ∧ ∀ (i : Nat) x y, xs[i]? = some x → ys[i]? = some y → R x y
  | [], acc, A, h, _, _ => ⟨[], A, by unfold lcGo; simp, h, rfl, fun i x y hx => by simp at hx⟩
  | x :: xs, acc, A, h, st, hz => by
    rw [List.length_cons] at hz
    obtain ⟨A1, A2, y, e1, e2, e3, e4, h', hr⟩ := st x List.mem_cons_self A h
    obtain ⟨ys, A', e5, hp, hl, hR⟩ := lcGo_inv xs (acc ++ [y]) (wipeE A2 vs) h' (fun z hz => st z (List.mem_cons_of_mem _ hz)) (by rw [List.length_append, List.length_singleton]; omega)
    refine ⟨y :: ys, A', ?_, hp, by rw [List.length_cons, List.length_cons, hl], fun i u v hu hv => ?_⟩
    · unfold lcGo
      rw [e1]
      simp only [Ot.nx, bind_ok]
      rw [if_pos e2, e3]
      simp only [bind_ok, bo]
      rw [e4]
      simp only [bind_ok]
      rw [if_pos (by omega), e5]
      simp
    · cases i with
      | zero =>
        simp at hu hv
        subst hu; subst hv
        exact hr
      | succ i => exact hR i u v (by simpa using hu) (by simpa using hv)
/-- a while loop by a falling number -/
theorem whGo_inv {c : M} {b : MS} {P : Nat → Env → Prop} {Z : Env → Prop} (h0 : ∀ ρ, P 0 ρ → ∃ ρ', c ρ = .ok (.d (.bool false), ρ') ∧ Z ρ')
    (hs : ∀ k ρ, P (k + 1) ρ → ∃ ρ1 ρ2 f, c ρ = .ok (.d (.bool true), ρ1) ∧ b ρ1 = .ok (f, ρ2) ∧ (f = .next ∨ f = .cont) ∧ P k ρ2) : ∀ (k F : Nat) (ρ : Env), k < F → P k ρ → ∃ ρ', whGo c b F ρ = .ok (.next, ρ') ∧ Z ρ'
  | _, 0, _, h, _ => absurd h (Nat.not_lt_zero _)
  | 0, F + 1, ρ, _, h => by
    obtain ⟨ρ', e, z⟩ := h0 ρ h
    exact ⟨ρ', by unfold whGo; rw [e]; simp [bo], z⟩
  | k + 1, F + 1, ρ, hF, h => by
    obtain ⟨ρ1, ρ2, f, e1, e2, hf, h'⟩ := hs k ρ h
    obtain ⟨ρ', e3, z⟩ := whGo_inv h0 hs k F ρ2 (by omega) h'
    refine ⟨ρ', ?_, z⟩
    unfold whGo
    rw [e1]
    simp only [bind_ok, bo]
    rw [e2]
    simp only [bind_ok]
    rcases hf with hf | hf <;> (subst hf; exact e3)
end Mp
set_option maxHeartbeats 1000000
/-! Mp32: tuple(range(..)). -/
namespace Mp
open PySem PySem.Spec PyProof.Rows L2
def mTR1 (m : M) : M := fun ρ => (m ρ).bind fun p => match p.1 with
  | .d (.int j) => if lrOk j then .ok (.d (.tuple (intsD 0 j.toNat)), p.2) else .stuck
  | _ => .stuck
def mTR2 (a b : M) : M := fun ρ => (a ρ).bind fun p => (b p.2).bind fun q => match p.1, q.1 with
  | .d (.int i), .d (.int j) => if lrOk i && lrOk j then .ok (.d (.tuple (intsD i (j - i).toNat)), q.2) else .stuck
  | _, _ => .stuck
section
variable {X : Cx} {W : WX} {e e2 : Expr} {pos pos2 p1 p2 : Pos} {m ma mb : M}
theorem pe_mTR1 (hc : X.calm = true) (hg : Gl X "tuple") (hm : X.mg "tuple" = none) (hg2 : Gl X "range") (hm2 : X.mg "range" = none) (he : PE X e (tOf X.K X.mg W m)) (hs : starEach [e] X.env = (false, eval e X.env) :: starEach [] X.env)
    (na : starEach [.Call (.Name "range" p2) [e] [] pos2] X.env = (false, eval (.Call (.Name "range" p2) [e] [] pos2) X.env) :: starEach [] X.env) : PE X (.Call (.Name "tuple" p1) [.Call (.Name "range" p2) [e] [] pos2] [] pos) (tOf X.K X.mg W (mTR1 m)) := by
  refine PE.weak (pe_tupRg hc hg hm (prg_1 hg2 hm2 he hs) na) fun σ H Q ⟨ρ, S, q⟩ => ⟨ρ, S, ?_⟩
  unfold mTR1 at q
  cases e1 : m ρ with
  | stuck => rw [e1] at q; exact q.elim
  | exc x => rw [e1] at q; exact q
  | ok p =>
    obtain ⟨r, ρ1⟩ := p
    rw [e1] at q
    simp only [Ot.bind] at q
    intro v H1 p1
    cases r <;> try (exact q.elim)
    rename_i x
    cases x <;> try (exact q.elim)
    rename_i j
    simp only at q
    split at q
    case isFalse => exact q.elim
    rename_i hj
    unfold lrOk at hj
    simp only [Bool.and_eq_true, decide_eq_true_eq] at hj
    cases (show RepD X.K H1 v (.int j) from p1.at_)
    refine ⟨j, rfl, ⟨by omega, by omega, by omega, by omega, by omega⟩, fun c hc => ?_⟩
    have hr := rg_rep (K := X.K) (H := upd H1 c (.tup (rgV 0 j))) 0 j
    rw [Int.sub_zero] at hr
    exact q _ _ ((p1.mid.trans (Mid.updN p1.sim hc)).post (RepD.tup (.inl (.inl upd_same)) hr) trivial)
theorem pe_mTR2 (hc : X.calm = true) (hg : Gl X "tuple") (hm : X.mg "tuple" = none) (hg2 : Gl X "range") (hm2 : X.mg "range" = none) (ha : PE X e (tOf X.K X.mg W ma)) (hb : PE X e2 (tOf X.K X.mg W mb)) (hs : starEach [e, e2] X.env = (false, eval e X.env) :: starEach [e2] X.env)
    (hs2 : starEach [e2] X.env = (false, eval e2 X.env) :: starEach [] X.env) (hpl : (backTo pos2 (starEach [e2] X.env)).any (·.1) = false)
    (na : starEach [.Call (.Name "range" p2) [e, e2] [] pos2] X.env = (false, eval (.Call (.Name "range" p2) [e, e2] [] pos2) X.env) :: starEach [] X.env) : PE X (.Call (.Name "tuple" p1) [.Call (.Name "range" p2) [e, e2] [] pos2] [] pos) (tOf X.K X.mg W (mTR2 ma mb)) := by
  refine PE.weak (pe_tupRg hc hg hm (prg_2 hg2 hm2 ha hb hs hs2 hpl) na) fun σ H Q ⟨ρ, S, q⟩ => ⟨ρ, S, ?_⟩
  unfold mTR2 at q
  cases e1 : ma ρ with
  | stuck => rw [e1] at q; exact q.elim
  | exc x => rw [e1] at q; exact q
  | ok p =>
    obtain ⟨r1, ρ1⟩ := p
    rw [e1] at q
    simp only [Ot.bind] at q
    intro x H1 p1
    refine ⟨ρ1, p1.sim, ?_⟩
    cases e2 : mb ρ1 with
    | stuck => rw [e2] at q; exact q.elim
    | exc x =>
      rw [e2] at q
      exact fun cls d H' ex k => q cls d H' ex (p1.keep.trans k fun c z => .inl (p1.sub c z))
    | ok p =>
      obtain ⟨r2, ρ2⟩ := p
      rw [e2] at q
      simp only at q
      intro y H2 p2
      have a1 := RsAt.mid p1.sim p1.at_ p2.mid
      cases r1 <;> try (exact q.elim)
      rename_i dx
      cases dx <;> try (exact q.elim)
      rename_i i
      cases r2 <;> try (exact q.elim)
      rename_i dy
      cases dy <;> try (exact q.elim)
      rename_i j
      simp only at q
      split at q
      case isFalse => exact q.elim
      rename_i hj
      unfold lrOk at hj
      simp only [Bool.and_eq_true, decide_eq_true_eq] at hj
      cases (show RepD X.K H2 x (.int i) from a1)
      cases (show RepD X.K H2 y (.int j) from p2.at_)
      refine ⟨i, j, rfl, rfl, ⟨by omega, by omega, by omega, by omega, by omega⟩, fun c hc => ?_⟩
      have mm := p1.mid.trans p2.mid
      exact q _ _ ((mm.trans (Mid.updN mm.sim hc)).post (RepD.tup (.inl (.inl upd_same)) (rg_rep i j)) trivial)
end
end Mp
set_option maxHeartbeats 1000000
/-! Mp34: repr of any datum. -/
namespace Mp
open PySem PySem.Spec PyProof.Rows L2
section
variable {X : Cx} {pins : List (Addr × Obj)} {σ : L2.St} {H : Hp} {s : Shared}
mutual
/-- no list within -/
def noLst : D → Bool
  | .list _ => false
  | .tuple xs => noLsts xs
  | .dict kvs => noLstKv kvs
  | _ => true
def noLsts : List D → Bool
  | [] => true
  | x :: xs => noLst x && noLsts xs
def noLstKv : List (D × D) → Bool
  | [] => true
  | (_, v) :: r => noLst v && noLstKv r
end
theorem noLstKv_vals : ∀ {kvs : List (D × D)}, noLstKv kvs = true → noLsts (kvs.map Prod.snd) = true
  | [], _ => rfl
  | (k, v) :: r, h => by
    unfold noLstKv at h
    simp only [Bool.and_eq_true] at h
    show (noLst v && noLsts (r.map Prod.snd)) = true
    rw [h.1, noLstKv_vals h.2]
    rfl
theorem keys_read' {P : Program} {w : World} {h : Heap} {es : List DictEntry} {vs : List (Key × Value)} (p : Pairs (mixKind P w) es vs) : ReadsAll h (es.map (·.key)) (vs.map fun q => keyD q.1) [] := by
  induction p with
  | nil => exact .nil
  | @cons e kv es kvs h1 h2 t ih =>
    refine .cons (as := []) (bs := []) ?_ ih
    rcases keyIs_shape h1 with ⟨i, t, e1, e2⟩ | ⟨x, t, e1, e2⟩
    · show Reads h e.key (keyD kv.1) []
      rw [e1, e2]
      exact .int i t
    · show Reads h e.key (keyD kv.1) []
      rw [e1, e2]
      exact .str x t
theorem keysT_read' {P : Program} {w : World} {h : Heap} (ok : HOk P w H h) {kvs : List (List Key × V)} {xs : List (List Key × Addr × Value)} (r : KT H kvs xs) : ReadsAll h (xs.map fun q => Value.ref q.2.1) (kvs.map fun q => keyT q.1) [] := by
  unfold KT at r
  induction r with
  | nil => exact .nil
  | @cons p q ps qs hq t ih =>
    obtain ⟨z, its, rv, o, e, c, n, d⟩ := (show ObjOk P w H h q.2.1 (.tup (p.1.map kV)) from ok _ _ hq.2.1)
    exact .cons (as := []) (bs := []) (.tuple e c d (by simpa using its_key rv)) ih
mutual
theorem RepD.readsN (I : Inv X pins σ H s) : ∀ {v : V} {x : D} {u : Value}, RepD X.K H v x → RelV v u → noLst x = true → ∃ as, Reads s.heap u x as ∧ sysModules ∉ as
  | _, _, _, .none, r, _ => by cases r; exact ⟨_, .none, by simp⟩
  | _, _, _, .bool b, r, _ => by cases r; exact ⟨_, .bool b, by simp⟩
  | _, _, _, .int i, r, _ => by obtain ⟨t, rfl⟩ := r; exact ⟨_, .int i t, by simp⟩
  | _, _, _, .str x, r, _ => by obtain ⟨t, rfl⟩ := r; exact ⟨_, .str x t, by simp⟩
  | _, _, _, .tup (a := a) (xs := xs) hq rs, r, nl => by
    have nl : noLsts _ = true := nl
    cases r
    rcases hq with hq | ⟨o, its, n, hk, hc, hd, hz, rv⟩
    · obtain ⟨z, its, rv, o, e, c, n, d⟩ := hq.ok I.hok
      obtain ⟨as, q, nm⟩ := RepDs.readsN I rs rv nl
      exact ⟨as, .tuple e c d (by simpa using q), nm⟩
    · obtain ⟨as, q, nm⟩ := RepDs.readsN I rs rv nl
      exact ⟨as, .tuple (I.kIn a o hk) hc hd q, nm⟩
  | _, _, _, .lst (a := a) (xs := xs) hq rs, r, nl => by cases nl
  | _, _, _, .dct (a := a) (kws := kws) (kvs := kvs) ⟨o, hq⟩ ek rs, r, nl => by
    have nl : noLstKv _ = true := nl
    have nl := noLstKv_vals nl
    have en : (kvD kvs).map Prod.snd = kvs.map Prod.snd := by unfold kvD; rw [List.map_map]; rfl
    rw [en] at nl
    cases r
    obtain ⟨eo, z, y, vs, kv, o', es, ep, e, c, d, _, hes, nd⟩ := I.hok a _ hq
    obtain ⟨as, q, nm⟩ := RepDs.readsN I rs (KV.snd kv) nl
    have qk := keys_read' (h := s.heap) hes
    refine ⟨_, .dict e (by exact c.1) d (as := []) (bs := as) ?_ ?_, fun h => (List.mem_cons.mp h).elim (fun h => by rw [← h] at y; exact absurd y (by decide)) fun h => nm (by simpa using h)⟩
    · have e2 : (kvD kvs).map (·.1) = vs.map fun q => keyD q.1 := by
        unfold kvD
        rw [List.map_map]
        exact fst_map (f := keyD) (ek.symm.trans (KV.fst kv))
      rw [e2]
      exact qk
    · have e2 : (kvD kvs).map (·.2) = kvs.map Prod.snd := by
        unfold kvD
        rw [List.map_map]
        rfl
      rw [e2, vals_of hes]
      exact q
  | _, _, _, .dtt (a := a) (kws := kws) (kvs := kvs) ⟨o, hq⟩ _ ek rs, r, nl => by
    have nl : noLstKv _ = true := nl
    have nl := noLstKv_vals nl
    have en : (kvT kvs).map Prod.snd = kvs.map Prod.snd := by unfold kvT; rw [List.map_map]; rfl
    rw [en] at nl
    cases r
    obtain ⟨eo, z, y, xs, kv, o', es, ep, e, c, d, hes, nd⟩ := I.hok a _ hq
    obtain ⟨as, q, nm⟩ := RepDs.readsN I rs (KT.fst kv) nl
    have qk := keysT_read' I.hok kv
    refine ⟨_, .dict e (by exact c.1) d (as := []) (bs := as) ?_ ?_, fun h => (List.mem_cons.mp h).elim (fun h => by rw [← h] at y; exact absurd y (by decide)) fun h => nm (by simpa using h)⟩
    · have e2 : (kvT kvs).map (·.1) = kws.map fun q => keyT q.1 := by
        unfold kvT
        rw [List.map_map]
        exact fst_map (f := keyT) ek.symm
      rw [e2, hes, List.map_map]
      exact qk
    · have e2 : (kvT kvs).map (·.2) = kvs.map Prod.snd := by
        unfold kvT
        rw [List.map_map]
        rfl
      rw [e2, hes, List.map_map]
      exact q
theorem RepDs.readsN (I : Inv X pins σ H s) : ∀ {vs : List V} {xs : List D} {us : List Value}, RepDs X.K H vs xs → Vals vs us → noLsts xs = true → ∃ as, ReadsAll s.heap us xs as ∧ sysModules ∉ as
  | _, _, _, .nil, .nil, _ => ⟨_, .nil, by simp⟩
  | _, _, _, .cons r t, .cons q u, nl => by
    have nl : (noLst _ && noLsts _) = true := nl
    obtain ⟨nl1, nl2⟩ := (Bool.and_eq_true _ _).mp nl
    obtain ⟨as, a, n1⟩ := RepD.readsN I r q nl1
    obtain ⟨bs, b, n2⟩ := RepDs.readsN I t u nl2
    exact ⟨_, .cons a b, fun h => (List.mem_append.mp h).elim n1 n2⟩
end
/-- repr(x), x a datum -/
def reprOk (d : D) : Bool := (!PyData.hasDict d || noLst d) && PyData.showable d && decide (PyData.depth d < 200) && decide ((PyData.shown d).length ≤ sizeLine)
def gReprD : List D → Option Res
  | [d] => if reprOk d then some (.d (.str (PyData.shown d))) else none
  | _ => none
theorem RepD.readsX (I : Inv X pins σ H s) {v : V} {x : D} {u : Value} (h : (!PyData.hasDict x || noLst x) = true) (rd : RepD X.K H v x) (ru : RelV v u) : ∃ as, Reads s.heap u x as ∧ (x.hasDict = true → sysModules ∉ as) := by
  cases hd : x.hasDict with
  | false =>
    obtain ⟨as, r⟩ := RepD.reads I.hok I.kIn rd ru
    exact ⟨as, r, fun h => by cases h⟩
  | true =>
    rw [hd] at h
    obtain ⟨as, r, nm⟩ := RepD.readsN I rd ru (by simpa using h)
    exact ⟨as, r, fun _ => nm⟩
theorem repr_datum (rm : Rm X.A) {Q : VK} {v : V} {d : D} {u : Value} (I : Inv X pins σ H s) (rd : RepD X.K H v d) (ru : RelV v u) (h : reprOk d = true) (q : ∀ v, RepD X.K H v (.str (PyData.shown d)) → Q v H) :
    wpAny (model X.prog X.w) X.A (call (.builtin "repr") [u]) (EP X pins σ Q) X.xe s := by
  unfold reprOk at h
  simp only [Bool.and_eq_true, decide_eq_true_eq] at h
  obtain ⟨⟨⟨h0, h1⟩, h3⟩, h4⟩ := h
  have fin : ∀ t : Tok, ∀ tk : Nat, EP X pins σ Q (.str (PyData.shown d) t) { s with toks := tk } := fun t tk => ⟨.str _, H, I.tok tk, ⟨t, rfl⟩, q _ (.str _)⟩
  have big : ∀ a, u = .ref a → wpAny (model X.prog X.w) X.A (call (.builtin "repr") [u]) (EP X pins σ Q) X.xe s := fun a e => by
    obtain ⟨as, r, nm⟩ := RepD.readsX I h0 rd ru
    subst e
    refine repr_of_reads' r h1 nm rm.gd (by have := rm.un; omega) (fun _ _ e => e) (fun h' u tk k => ?_) (hsz := h4)
    exact ⟨.str _, H, I.kept (t' := tk) k, ⟨u, rfl⟩, q _ (.str _)⟩
  cases rd with
  | none => cases ru; exact PySem.P.repr_of_none (fin _ _)
  | bool b =>
    cases ru
    refine PySem.P.repr_of_bool ?_
    have := fin s.toks (s.toks + 1)
    cases b <;> exact this
  | int i =>
    obtain ⟨t, rfl⟩ := ru
    have hz : i.natAbs.log2 < 1920 := by simpa [PyData.showable] using h1
    exact PySem.P.repr_of_int hz (fin _ _)
  | str x =>
    obtain ⟨t, rfl⟩ := ru
    exact PySem.P.repr_of_str (fin _ _) (hsz := h4)
  | tup hq rs => cases ru; exact big _ rfl
  | lst hq rs => cases ru; exact big _ rfl
  | dct hq ek rs => cases ru; exact big _ rfl
  | dtt hq hn ek rs => cases ru; exact big _ rfl
theorem RepP.readsX (I : Inv X pins σ H s) {v : V} {x : D} {u : Value} (h : (!PyData.hasDict x || noLst x) = true) (rd : RepP X.K H v x) (ru : RelV v u) : ∃ as, Reads s.heap u x as ∧ (x.hasDict = true → sysModules ∉ as) := by
  rcases rd with rd | ⟨a, o, b, ev, hl, rs, ed, bk⟩
  · exact RepD.readsX I h rd ru
  · cases hd : x.hasDict with
    | false =>
      obtain ⟨as, r⟩ := RepP.reads I.hok I.kIn (.inr ⟨a, o, b, ev, hl, rs, ed, bk⟩) ru
      exact ⟨as, r, fun h => by cases h⟩
    | true =>
      rw [hd] at h
      have nl : noLst x = true := by simpa using h
      subst ev; subst ed
      cases ru
      cases b with
      | lst xs => cases nl
      | dct kvs =>
        cases o <;> try (exact rs.elim)
        rename_i kws
        obtain ⟨z, y, vs, kv, o', es, ep, e, c, d, _, hes, nd⟩ := I.hok a _ hl
        have nl := noLstKv_vals (show noLstKv (kvD kvs) = true from nl)
        have en : (kvD kvs).map Prod.snd = kvs.map Prod.snd := by unfold kvD; rw [List.map_map]; rfl
        rw [en] at nl
        obtain ⟨as, q, nm⟩ := RepDs.readsN I rs.2 (KV.snd kv) nl
        have qk := keys_read' (h := s.heap) hes
        refine ⟨_, .dict e (by exact c.1) d (as := []) (bs := as) ?_ ?_, fun _ h => (List.mem_cons.mp h).elim (fun h => by rw [← h] at y; exact absurd y (by decide)) fun h => nm (by simpa using h)⟩
        · have e2 : (kvD kvs).map (·.1) = vs.map fun q => keyD q.1 := by
            unfold kvD
            rw [List.map_map]
            exact fst_map (f := keyD) (rs.1.symm.trans (KV.fst kv))
          rw [e2]
          exact qk
        · have e2 : (kvD kvs).map (·.2) = kvs.map Prod.snd := en
          rw [e2, vals_of hes]
          exact q
      | dtt kvs =>
        cases o <;> try (exact rs.elim)
        rename_i kws
        obtain ⟨z, y, xs, kv, o', es, ep, e, c, d, hes, nd⟩ := I.hok a _ hl
        have nl := noLstKv_vals (show noLstKv (kvT kvs) = true from nl)
        have en : (kvT kvs).map Prod.snd = kvs.map Prod.snd := by unfold kvT; rw [List.map_map]; rfl
        rw [en] at nl
        obtain ⟨as, q, nm⟩ := RepDs.readsN I rs.2 (KT.fst kv) nl
        have qk := keysT_read' I.hok kv
        refine ⟨_, .dict e (by exact c.1) d (as := []) (bs := as) ?_ ?_, fun _ h => (List.mem_cons.mp h).elim (fun h => by rw [← h] at y; exact absurd y (by decide)) fun h => nm (by simpa using h)⟩
        · have e2 : (kvT kvs).map (·.1) = kws.map fun q => keyT q.1 := by
            unfold kvT
            rw [List.map_map]
            exact fst_map (f := keyT) rs.1.symm
          rw [e2, hes, List.map_map]
          exact qk
        · have e2 : (kvT kvs).map (·.2) = kvs.map Prod.snd := en
          rw [e2, hes, List.map_map]
          exact q
theorem cg_reprD (rm : Rm X.A) : CallR X (.builtin "repr") (rC X.K gReprD) := by
  intro pins s σ H xs us Q I r ⟨ds', res, rp, eg, q⟩
  unfold gReprD at eg
  split at eg
  case h_2 => cases eg
  rename_i d
  split at eg
  case isFalse => cases eg
  rename_i h
  cases eg
  cases rp with
  | cons px t =>
    cases t
    obtain ⟨u, rfl, rx⟩ := vals1' r
    rcases px with px | ⟨a, o, b, ev, hl, rs, ed, bk⟩
    · exact repr_datum rm I px rx h q
    · unfold reprOk at h
      simp only [Bool.and_eq_true, decide_eq_true_eq] at h
      obtain ⟨⟨⟨h0, h1⟩, h3⟩, h4⟩ := h
      obtain ⟨as, rr, nm⟩ := RepP.readsX I h0 (.inr ⟨a, o, b, ev, hl, rs, ed, bk⟩) rx
      subst ev
      cases rx
      refine repr_of_reads' rr h1 nm rm.gd (by have := rm.un; omega) (fun _ _ e => e) (fun h' u tk k => ?_) (hsz := h4)
      exact ⟨.str _, H, I.kept (t' := tk) k, ⟨u, rfl⟩, q _ (.str _)⟩
end
end Mp
set_option maxHeartbeats 1000000
/-! Mp35: e[::-1] of lists and tuples. -/
namespace Mp
open PySem PySem.Spec PyProof.Rows L2
section
variable {prog : Program} {w : World} {A : Around} {E : Value → Shared → Prop} {s : Shared}
theorem adjust_rev (n : Nat) : Builtin.Slice.sliceAdjust none none (-1) (n : Int) = ((n : Int) - 1, -1) := by
  unfold Builtin.Slice.sliceAdjust
  simp
theorem places_rev (n : Nat) : Builtin.Slice.slicePlaces ((n : Int) - 1) (-1) (-1) = n := by
  unfold Builtin.Slice.slicePlaces
  simp
  omega
theorem applied_rev {sl : Addr} {t : Tok} {n : Nat} {Q : Int × Int × Nat → Shared → Prop} (hs : s.heap.IsSliceOf sl .none .none (.int (-1) t))
    (h : Q ((n : Int) - 1, -1, n) s) : wpAny (model prog w) A (Builtin.Slice.sliceApplied (.ref sl) (pure (n : Int))) Q E s := by
  obtain ⟨os, hos, hcs, hds⟩ := id hs
  unfold Builtin.Slice.sliceApplied Builtin.Slice.sliceFields
  refine wpAny_bind (wpAny_bind (wpAny_field hos hds (x := .none) rfl (wpAny_bind (wpAny_field hos hds (x := .none) rfl (wpAny_bind (wpAny_field hos hds (x := .int (-1) t) rfl (wpAny_pure ?_)))))))
  refine wpAny_bind (HT.slicePart_ (.int (-1) t) ?_)
  show wpAny _ _ (if ((-1 : Int) == 0) = true then _ else _) _ _ s
  rw [if_neg (by decide)]
  refine wpAny_bind (HT.slicePart_ .none (wpAny_bind (HT.slicePart_ .none (wpAny_bind (wpAny_pure ?_)))))
  show wpAny _ _ (match Builtin.Slice.sliceAdjust none none (-1) (n : Int) with | (lo, hi) => pure (lo, (-1 : Int), Builtin.Slice.slicePlaces lo hi (-1))) _ _ s
  rw [adjust_rev n]
  show wpAny _ _ (pure ((n : Int) - 1, (-1 : Int), Builtin.Slice.slicePlaces ((n : Int) - 1) (-1) (-1))) _ _ s
  rw [places_rev]
  exact wpAny_pure h
theorem pick_rev (xs : Array Value) : ((List.range xs.size).filterMap fun (m : Nat) => xs[(((xs.size : Int) - 1) + (m : Int) * (-1)).toNat]?).toArray = xs.toList.reverse.toArray := by
  congr 1
  have e : (List.range xs.size).filterMap (fun (m : Nat) => xs[(((xs.size : Int) - 1) + (m : Int) * (-1)).toNat]?) = ((List.range xs.size).map fun k => xs.size - 1 - k).filterMap (xs[·]?) := by
    rw [List.filterMap_map]
    have go : ∀ (l : List Nat) (f g : Nat → Option Value), (∀ m ∈ l, f m = g m) → l.filterMap f = l.filterMap g := fun l f g h => by
      induction l with
      | nil => rfl
      | cons x l ih => rw [List.filterMap_cons, List.filterMap_cons, h x List.mem_cons_self, ih fun m hm => h m (List.mem_cons_of_mem _ hm)]
    refine go _ _ _ fun m hm => ?_
    have := List.mem_range.mp hm
    have e2 : (((xs.size : Int) - 1) + (m : Int) * (-1)).toNat = xs.size - 1 - m := by omega
    rw [e2]
    rfl
  rw [e, PySem.W.krv_range, List.filterMap_reverse, PySem.W.krv_all]
theorem getItem_tuple_rev {t sl : Addr} {tk : Tok} {items : Array Value} {Q : Value → Shared → Prop} (ht : IsTup s.heap t items) (hs : s.heap.IsSliceOf sl .none .none (.int (-1) tk))
    (h : Q (.ref s.heap.objs.size) { s with heap := s.heap.push { cls := .type "tuple", data := .seq items.toList.reverse.toArray } })
    (hsz : items.size ≤ sizeLine) : wpAny (model prog w) A (getItem (.ref t) (.ref sl)) Q E s := by
  have htake : sizeOk (.seq items.toList.reverse.toArray) := by
    show items.toList.reverse.toArray.size ≤ sizeLine
    rw [List.size_toArray, List.length_reverse, Array.length_toList]
    omega
  obtain ⟨os, hos, hcs, hds⟩ := id hs
  have hTs : s.TypeIs (.ref sl) "slice" := ⟨os, hos, hcs⟩
  unfold getItem
  try with_reducible refine wpAny_holding ?_
  first | refine wpAny_bind (wpAny_pure ?_) | skip
  refine wpAny_bind (wpAny_sequenceKey ht.typeIs (by decide) ?_)
  refine wpAny_bind (wpAny_callSpecial?_slot (name := Str.ofString "__getitem__") ht.typeIs PyProof.Rows.slot_tuple_getitem
    (wpAny_call_entry PyProof.Rows.slot_tuple_getitem ht.typeIs entry_tuple_getitem ?_ (args_tuple_getitem _ _)))
  show wpAny _ _ (Builtin.Tuple.tupleItemsOf (.ref t) >>= _) _ _ s
  refine wpAny_bind (tupleItemsOf_ ht ?_)
  refine wpAny_bind (wpAny_typeOf hTs ?_)
  rw [if_pos (by decide)]
  refine wpAny_bind (applied_rev hs ?_)
  have hno : ¬ (((items.size : Int) - 1 == 0 && (-1 : Int) == 1 && items.size == items.size) = true) := by
    rw [show ((-1 : Int) == 1) = false from rfl]
    simp
  show wpAny _ _ (if ((items.size : Int) - 1 == 0 && (-1 : Int) == 1 && items.size == items.size) = true then _ else _) _ _ s
  rw [if_neg hno, pick_rev]
  first
    | exact wpAny_bind (m := Builtin.Tuple.tupleExact _) (wpAny_newObj_type (wpAny_pure ⟨_, rfl, wpAny_pure h⟩) htake)
    | exact wpAny_bind (m := Builtin.Tuple.tupleExact _) (wpAny_newObj_type (wpAny_bind (wpAny_pure (wpAny_pure ⟨_, rfl, wpAny_pure h⟩))) htake)
    | exact wpAny_bind (wpAny_bind (m := Builtin.Tuple.tupleExact _) (wpAny_newObj_type (wpAny_pure (wpAny_pure ⟨_, rfl, wpAny_pure h⟩)) htake))
    | exact wpAny_bind (wpAny_bind (m := Builtin.Tuple.tupleExact _) (wpAny_newObj_type (wpAny_pure ⟨_, rfl, wpAny_pure h⟩) htake))
end
section
variable {X : Cx}
def tRevT (K : PySem.W.Frag) (te : TE) : TE := fun σ H Q => te σ H fun x H1 => ∃ a xs, x = .ref a ∧ SqT K H1 a xs ∧ ∀ p, H1 p = none → Q (.ref p) (upd H1 p (.tup xs.reverse))
theorem pe_revT {e : Expr} {te : TE} {k : Nat} {p1 p2 p3 pos : Pos} (he : PE X e te) : PE X (.Subscript e (.Slice none none (some (.UnaryOp .USub (.Constant (.int 1) k p1) p2)) p3) pos) (tRevT X.K te) := by
  refine ⟨fun pins s σ H Q I h => ?_⟩
  refine Subscript_ (thn (he.run pins s σ H _ I h) fun v s1 ⟨x, H1, I1, r1, q1⟩ => ?_)
  obtain ⟨a, xs, ex, hx, q⟩ := q1
  subst ex
  cases r1
  have hst : PO X (some (.UnaryOp .USub (.Constant (.int 1) k p1) p2)) (tPart (tUn (rU fun i => .int (-i)) (tC (.int 1)))) := po_some (pe_un un_neg pe_int)
  refine wpAny_Slice (thn (po_none.run pins s1 σ H1 (fun o H2 => o = none ∧ H2 = H1) I1 ⟨rfl, rfl⟩) fun vl s2 ⟨l, H2, I2, pl, el, e2⟩ => ?_)
  subst el e2
  refine thn (po_none.run pins s2 σ H2 (fun o H3 => o = none ∧ H3 = H2) I2 ⟨rfl, rfl⟩) fun vu s3 ⟨u, H3, I3, pu, eu, e3⟩ => ?_
  subst eu e3
  refine thn (hst.run pins s3 σ H3 (fun o H4 => o = some (-1) ∧ H4 = H3) I3 ⟨1, rfl, -1, rfl, rfl, rfl⟩) fun vs s4 ⟨o, H4, I4, ps, eo, e4⟩ => ?_
  subst eo e4
  cases pl
  cases pu
  obtain ⟨tk, rfl⟩ : ∃ tk, vs = .int (-1) tk := by
    cases ps with
    | int i t => exact ⟨t, rfl⟩
  have I5 : Inv X pins σ H4 { s4 with heap := s4.heap.push { cls := .type "slice", data := .fields #[.none, .none, .int (-1) tk] } } := I4.kept (t' := s4.toks) fun b ob q => Heap.get?_push_of_some _ q
  obtain ⟨its, r, ht, hz⟩ := I5.tuple hx
  have hlen := r.length
  show wpAny (model X.prog X.w) X.A (subscriptTail e (.Slice none none (some (.UnaryOp .USub (.Constant (.int 1) k p1) p2)) p3) (.ref a) (.ref s4.heap.objs.size)) (EP X pins σ Q) X.xe { s4 with heap := s4.heap.push { cls := .type "slice", data := .fields #[.none, .none, .int (-1) tk] } }
  refine tail_any (ops := [.ref a, .ref s4.heap.objs.size]) ht.typeIs (PyProof.Rows.slot_tuple_getitem.lookup) ?_ (by with_unfolding_all rfl)
  refine getItem_tuple_rev ht (Heap.IsSliceOf.new _ .none .none (.int (-1) tk)) ?_ (by rw [List.size_toArray]; omega)
  refine ⟨.ref _, _, I5.laid (t' := s4.toks) (o := .tup xs.reverse) (fun b ob q => Heap.get?_push_of_some _ q) (Nat.le_refl _) ?_, rfl, q _ (I5.hok.fresh (Nat.le_refl _))⟩
  exact ⟨by rw [List.length_reverse]; exact hz, _, r.reverse, ⟨_, Heap.get?_push_size _ rfl, rfl, _, rfl⟩⟩
end
theorem PE.or {X : Cx} {e : Expr} {t1 t2 : TE} (h1 : PE X e t1) (h2 : PE X e t2) : PE X e (fun σ H Q => t1 σ H Q ∨ t2 σ H Q) := ⟨fun pins s σ H Q I q => q.elim (h1.run pins s σ H Q I) (h2.run pins s σ H Q I)⟩
/-- e[::-1] -/
def revR (ρ : Env) (r : Rs) : Option Rs := match pk ρ r with
  | some (.list xs) => some (.new (.lst xs.reverse))
  | some (.tuple xs) => some (.d (.tuple xs.reverse))
  | _ => none
def mRev (m : M) : M := fun ρ => (m ρ).bind fun p => match revR p.2 p.1 with
  | some r => .ok (r, p.2)
  | none => .stuck
theorem pe_mRev {X : Cx} {W : WX} {e : Expr} {k : Nat} {p1 p2 p3 pos : Pos} {m : M} (he : PE X e (tOf X.K X.mg W m)) :
    PE X (.Subscript e (.Slice none none (some (.UnaryOp .USub (.Constant (.int 1) k p1) p2)) p3) pos) (tOf X.K X.mg W (mRev m)) := by
  refine PE.weak (PE.or (pe_revL he) (pe_revT he)) fun σ H Q ⟨ρ, S, q⟩ => ?_
  unfold mRev at q
  cases e1 : m ρ with
  | stuck => rw [e1] at q; exact q.elim
  | exc x => rw [e1] at q; exact .inl ⟨ρ, S, by rw [e1]; exact q⟩
  | ok p =>
    obtain ⟨r, ρ1⟩ := p
    rw [e1] at q
    simp only [Ot.bind] at q
    unfold revR at q
    cases k1 : pk ρ1 r with
    | none => rw [k1] at q; exact q.elim
    | some d =>
      rw [k1] at q
      cases d <;> try (exact q.elim)
      · rename_i xs
        refine .inl ⟨ρ, S, ?_⟩
        rw [e1]
        intro v H1 p1
        obtain ⟨a, vs, ev, hq, rs⟩ := (pk_rep p1.sim p1.at_ k1).sq
        refine ⟨a, vs, ev, hq, fun c hc => ?_⟩
        refine q _ _ ((p1.mid.trans (Mid.updN p1.sim hc)).post ⟨c, .lst _, rfl, upd_same, (rs.reverse).pers (pers_upd hc), p1.sim.not_ow hc⟩ fun a e => ?_)
        cases e
        exact p1.grow _ hc
      · rename_i xs
        refine .inr ⟨ρ, S, ?_⟩
        rw [e1]
        intro v H1 p1
        obtain ⟨a, vs, ev, hq, rs⟩ := (pk_rep p1.sim p1.at_ k1).tp
        refine ⟨a, vs, ev, hq, fun c hc => ?_⟩
        exact q _ _ ((p1.mid.trans (Mid.updN p1.sim hc)).post (RepD.tup (.inl (.inl upd_same)) ((rs.reverse).pers (pers_upd hc))) trivial)
end Mp
set_option maxHeartbeats 1000000
/-! Mp36: isinstance of any datum; str(int). -/
namespace Mp
open PySem PySem.Spec PyProof.Rows L2
def okIs : D → Bool
  | .dict ds => (unK ds).isSome
  | _ => true
theorem RepP.tyXA {K : PySem.W.Frag} {H : Hp} {v : V} {x : D} (h : RepP K H v x) (hx : okIs x = true) : TyX K H v (.type (tyD x)) := by
  rcases h with h | ⟨a, o, b, e, hl, rs, ed, bk⟩
  · cases h with
    | none => exact .base .non
    | bool b => exact .base (.bl b)
    | int i => exact .base (.int i)
    | str x => exact .base (.str x)
    | tup hq _ =>
      rcases hq with (hq | ⟨o, hq⟩) | ⟨o, its, n, hk, hc, _⟩
      · exact .base (.tup hq)
      · exact .fTuple hq
      · exact .kTuple hk hc
    | lst hq _ => obtain ⟨o, hq⟩ := hq; exact .base (.frz hq)
    | dct hq _ _ => obtain ⟨o, hq⟩ := hq; exact .fDict hq
    | dtt hq hn _ _ =>
      have := unK_kvT hn
      unfold okIs at hx
      simp only [this] at hx
      cases hx
  · subst e; subst ed
    cases o <;> cases b <;> first | exact rs.elim | exact .base (.lst hl) | exact .base (.dK hl) | exact .base (.dT hl)
def mIsA (Ts : List String) (a : M) : M := fun ρ => (a ρ).bind fun p => match pk p.2 p.1 with
  | some d => if Ts.all known && okIs d then .ok (.d (.bool (Ts.any (isTy (tyD d)))), p.2) else .stuck
  | none => .stuck
section
variable {X : Cx} {W : WX} {e : Expr} {pos p : Pos} {m : M}
/-- isinstance(e, T) -/
theorem pe_mIsA1 {c : Expr} {n : String} (hg : Gl X "isinstance") (hm : X.mg "isinstance" = none) (ha : PE X e (tOf X.K X.mg W m)) (hc : PE X c (tC (.ty n)))
    (h1 : starEach [e, c] X.env = (false, eval e X.env) :: starEach [c] X.env) (h2 : starEach [c] X.env = (false, eval c X.env) :: starEach [] X.env) (hpl : (backTo pos (starEach [c] X.env)).any (·.1) = false) :
    PE X (.Call (.Name "isinstance" p) [e, c] [] pos) (tOf X.K X.mg W (mIsA [n] m)) := by
  refine PE.weak (pe_callB call_isi hg hm (by decide +kernel) (pa_cons ha (pa_cons hc pa_nil h2) h1) (by decide) (by decide) h1 hpl) fun σ H Q ⟨ρ, S, q⟩ => ⟨ρ, S, ?_⟩
  unfold mIsA at q
  cases e1 : m ρ with
  | stuck => rw [e1] at q; exact q.elim
  | exc x => rw [e1] at q; exact q
  | ok p =>
    obtain ⟨r, ρ1⟩ := p
    rw [e1] at q
    simp only [Ot.bind] at q
    intro v H1 p1
    cases e2 : pk ρ1 r with
    | none => rw [e2] at q; exact q.elim
    | some d =>
      rw [e2] at q
      simp only at q
      split at q
      · rename_i hk
        obtain ⟨hk, hx⟩ := (Bool.and_eq_true _ _).mp hk
        refine ⟨v, .ty n, _, .type n, _, rfl, .ty n, (pk_rep p1.sim p1.at_ e2).tyXA hx, kit_any _ d n (by simpa using hk), ?_⟩
        have := q (.bl (List.any [n] (isTy (tyD d)))) H1 (p1.mid.post (.bool _) trivial)
        simpa using this
      · exact q.elim
/-- isinstance(e, (T, ..)) -/
theorem pe_mIsAT {cs : List Expr} {ns : List String} {k : Nat} {pt : Pos} (hg : Gl X "isinstance") (hm : X.mg "isinstance" = none) (ha : PE X e (tOf X.K X.mg W m)) {tc : TA} (hc : PA X cs tc) (hcs : ∀ σ H Q, Q (ns.map V.ty) H → tc σ H Q) (hl : ns.length ≤ 1000)
    (h1 : starEach [e, .Tuple cs k pt] X.env = (false, eval e X.env) :: starEach [.Tuple cs k pt] X.env) (h2 : starEach [.Tuple cs k pt] X.env = (false, eval (.Tuple cs k pt) X.env) :: starEach [] X.env) (hpl : (backTo pos (starEach [.Tuple cs k pt] X.env)).any (·.1) = false) :
    PE X (.Call (.Name "isinstance" p) [e, .Tuple cs k pt] [] pos) (tOf X.K X.mg W (mIsA ns m)) := by
  refine PE.weak (pe_callB call_isiT hg hm (by decide +kernel) (pa_cons ha (pa_cons (pe_tup hc) pa_nil h2) h1) (by decide) (by decide) h1 hpl) fun σ H Q ⟨ρ, S, q⟩ => ⟨ρ, S, ?_⟩
  unfold mIsA at q
  cases e1 : m ρ with
  | stuck => rw [e1] at q; exact q.elim
  | exc x => rw [e1] at q; exact q
  | ok p =>
    obtain ⟨r, ρ1⟩ := p
    rw [e1] at q
    simp only [Ot.bind] at q
    intro v H1 p1
    cases e2 : pk ρ1 r with
    | none => rw [e2] at q; exact q.elim
    | some d =>
      rw [e2] at q
      simp only at q
      split at q
      · rename_i hk
        obtain ⟨hk, hx⟩ := (Bool.and_eq_true _ _).mp hk
        refine hcs _ _ _ ⟨by rw [List.length_map]; exact line1000 hl, fun tp htp => ?_⟩
        have hty : ∀ ns : List String, Paired ClsV (ns.map V.ty) (ns.map Value.type) := fun ns => by
          induction ns with
          | nil => exact .nil
          | cons n ns ih => exact .cons (.ty n) ih
        have m2 := Mid.updN (o := .tup (ns.map V.ty)) p1.sim htp
        have rp : RepP X.K (upd H1 tp (.tup (ns.map V.ty))) v d := pk_rep m2.sim (RsAt.mid p1.sim p1.at_ m2) e2
        exact ⟨v, tp, _, _, _, _, rfl, upd_same, hty ns, rp.tyXA hx, kits_any _ d ns hk, q _ _ ((p1.mid.trans m2).post (.bool _) trivial)⟩
      · exact q.elim
end
/-- str(i) -/
def gStrI : List D → Option Res
  | [.int i] => if i.natAbs.log2 < 1920 then some (.d (.str (toString i))) else none
  | _ => none
theorem cg_strI {X : Cx} : CallR X (.type "str") (rC X.K gStrI) := by
  intro pins s σ H xs us Q I r ⟨ds', res, rp, eg, q⟩
  unfold gStrI at eg
  split at eg
  · split at eg
    case isFalse => cases eg
    rename_i h
    cases eg
    cases rp with
    | cons px t =>
      cases t
      have e := px.i
      subst e
      exact call_str_int pins s σ H _ us Q I r ⟨_, rfl, h, q _ (.str _)⟩
  · cases eg
theorem lv {a d k : Nat} (h : a ≤ d) : a ≤ d + k := Nat.le_trans h (Nat.le_add_right _ _)
end Mp
set_option maxHeartbeats 4000000
/-! Mp37: set(..) of a tuple of tuples of ints; a list times an int. -/
namespace Mp
open PySem PySem.Spec PyProof.Rows L2
section
variable {P : Program} {w : World} {A : Around} {E : Value → Shared → Prop} {s : Shared}
theorem set_of_tupsT {l : Addr} {its : Array Value} (ks : TL) {Q : Value → Shared → Prop} (hh : A.handled = none) (hl : s.heap.IsTuple l its) (hit : its.toList = ks.map fun q => Value.ref q.1) (inT : ∀ q ∈ ks, IsT P w s.heap q.2 q.1) (few : FewD ks) (hu : A.units + 3 < cLine)
    (h : ∀ (h' : Heap) (tk : Nat) L es ep t, SetTR P w h' s.heap.objs.size L es ep t → Got ks ks.length L → (∀ b o, s.heap.get? b = some o → h'.get? b = some o) → Q (.ref s.heap.objs.size) { s with heap := h', toks := tk }) :
    wpAny (model P w) A (call (.type "set") [.ref l]) Q E s := by
  have hsz : its.size = ks.length := by have q := congrArg List.length hit; rw [Array.length_toList, List.length_map] at q; exact q
  obtain ⟨cc, tl, hmro⟩ := F.called_set.mro; have hmade := F.called_set.made; have hsub := F.called_set.sub
  refine wpAny_call (codeAny_of_tree ?_); show wpAny _ _ (callAny (.type "set") _) _ _ _
  refine wpAny_pure ⟨Code.quiet_builtin _ (by decide +kernel), codeAny_builtin F.entry_type_call ?_⟩; rw [Around.under_plain (weight_type_call_type "set" [.ref l] []) rfl]
  have h1 := F.called_set.notType; have h2 := F.called_set.canCreate; have hct := F.typeCall_set_1 (.ref l)
  repeat (any_goals (first | assumption | wp_step))
  refine codeAny_mono (code_set_led1 (.ref l) (E := E) (Q₁ := fun obj s₁ => obj = .ref s.heap.objs.size ∧ s₁ = { s with heap := s.heap.push (newSet w) }) ⟨rfl, rfl⟩) fun r s₁ hr => ?_
  cases r with
  | error e => exact hr
  | ok fl =>
    cases fl with
    | ret obj =>
      obtain ⟨rfl, rfl⟩ := hr
      have hS : (s.heap.push (newSet w)).get? s.heap.objs.size = some (newSet w) := Heap.get?_push_size _ rfl
      have hT : Shared.TypeIs { s with heap := s.heap.push (newSet w) } (.ref s.heap.objs.size) "set" := ⟨_, hS, rfl⟩
      have hli := F.called_set.init.lookup; have hbi := F.called_set.init.bind (.ref s.heap.objs.size)
      repeat (any_goals (first | assumption | wp_step))
      refine codeAny_mono (codeAny_call_builtin (R := wants (fun r s₂ => r = .none ∧ ∃ h' tk L es ep t, s₂ = { s with heap := h', toks := tk } ∧ SetTR P w h' s.heap.objs.size L es ep t ∧ Got ks ks.length L ∧ ∀ b o, s.heap.get? b = some o → h'.get? b = some o) E)
        F.called_set.init.plain F.entry_set_init (check_set_init_1 hT ?_)) fun r₂ s₂ hr₂ => ?_
      · obtain ⟨ol, hol, hcl, nl, hdl⟩ := hl; obtain ⟨oc, od, odt, osl⟩ := ol
        simp only at hcl hdl; subst hcl; subst hdl
        have hol' : (s.heap.push (newSet w)).get? l = some { cls := .type "tuple", dict := od, data := .seq its nl, slots := osl } := Heap.get?_push_of_some _ hol
        have hs1 := F.sub_tuple_set; have hs2 := F.sub_tuple_frozenset; have hne : (Value.type "tuple" == Value.type "dict") = false := by decide
        have hl1 : (s.heap.push (newSet w)).IsTuple l its := ⟨_, hol', rfl, nl, rfl⟩
        unfold Builtin.«set.__init__» noKeywords Builtin.Frozenset.updateFrom; generalize hPI : pyIter = PI
        wp_walk; subst hPI
        refine wpAny_pyIter_tuple hl1 ?_; refine wpAny_bind (wpAny_runValue ?_)
        have hlS : l < s.heap.objs.size := Heap.lt_size hol; have hh3 : A.in1.in1.in1.handled = none := by simp [hh]
        have hsp : (s.heap.push (newSet w)).objs.size = s.heap.objs.size + 1 := Heap.size_push ..
        have hnI : l ≠ (s.heap.push (newSet w)).objs.size := by rw [hsp]; exact Nat.ne_of_lt (Nat.lt_succ_of_lt hlS)
        have nS : s.heap.objs.size ∉ [(s.heap.push (newSet w)).objs.size, l] := by
          rw [hsp]; intro z; rcases List.mem_cons.mp z with z | z
          · exact absurd z (Nat.ne_of_lt (Nat.lt_succ_self _))
          · rcases List.mem_cons.mp z with z | z
            · exact absurd z (Nat.ne_of_gt hlS)
            · cases z
        have none_of : ∀ b, s.heap.objs.size ≤ b → s.heap.get? b = none := fun b hb => by
          cases q : s.heap.get? b with
          | none => rfl
          | some o => exact absurd (Nat.lt_of_lt_of_le (Heap.lt_size q) hb) (Nat.lt_irrefl _)
        have val : ∀ (i : Nat) (v : Value), its[i]? = some v → ∃ q, ks[i]? = some q ∧ v = .ref q.1 := fun i v hv => by
          have q : its.toList[i]? = some v := by rw [Array.getElem?_toList]; exact hv
          rw [hit, List.getElem?_map] at q; obtain ⟨p, hp, e⟩ := Option.map_eq_some_iff.mp q
          exact ⟨p, hp, e.symm⟩
        have WW := (Walks.tuple (prog := P) (w := w) hh3 _ l hnI its).toS; rw [hsz] at WW
        refine upd_tups ks WW s.heap.objs.size nS few val s.heap inT (none_of _ (Nat.le_refl _)) (fun b hb => none_of b ?_) hu ks.length 0 _ (by omega) ⟨⟨_, Heap.get?_push_size _ rfl, rfl, rfl⟩, hl1.at fun o e => Heap.get?_push_of_some _ e⟩ (fun b o e => Heap.get?_push_of_some _ (Heap.get?_push_of_some _ e)) ?hS0 ?hR
        · rw [List.mem_singleton.mp hb, hsp]; exact Nat.le_succ _
        case hS0 =>
          have hg : ((s.heap.push (newSet w)).push { cls := .type "tuple_iterator", data := .fields #[.ref l, .int 0 0] }).get? s.heap.objs.size = some (newSet w) := Heap.get?_push_of_some _ hS
          exact ⟨[], #[], 0, _, setTR_fresh hg, Got.zero ks⟩
        case hR =>
          intro s' L es ep t hm hS' got old
          obtain ⟨h', g2, d', tk', os'⟩ := s'
          have eg : g2 = s.gens := hm.gens; have ed : d' = s.drawn := hm.drawn; have eo : os' = s.os := hm.os; subst eg; subst ed; subst eo
          show wpAny _ _ _ _ _ _
          refine wpAny_pure ?_; show wpAny _ _ (ret Value.none) _ _ _
          exact wpAny_pure ⟨rfl, h', tk', L, es, ep, t, rfl, hS', got, old⟩
      · cases r₂ with
        | error e => exact hr₂
        | ok fl₂ =>
          cases fl₂ with
          | ret r =>
            obtain ⟨rfl, h', tk, L, es, ep, t, rfl, hS', got, old⟩ := hr₂
            repeat (any_goals (first | assumption | wp_step))
            exact h _ _ _ _ _ _ hS' got old
          | _ => exact hr₂.elim
    | _ => exact hr.elim
end
end Mp
set_option maxHeartbeats 4000000
/-! Mp38: sorted(set(t)) of a tuple; a list times an int. -/
namespace Mp
open PySem PySem.Spec PyProof.Rows L2 PySem.W
section
variable {X : Cx}
def rSetIT (K : PySem.W.Frag) (w : World) : List V → Hp → VK → Prop := fun xs H Q => ∃ (l : Addr) (ns : List Int), xs = [V.ref l] ∧ SqT K H l (ns.map V.int) ∧ ns.length < 64 ∧ ∀ a c, H a = none → c ≤ ns.length → Q (.ref a) (upd H a (SetO w a (fun j => decide (j ∈ ns)) c))
theorem cr_setIT (hc : X.calm = true) : CallR X (.type "set") (rSetIT X.K X.w) := by
  intro pins s σ H xs us Q I r ⟨l, ns, e, hq, hl, q⟩
  subst e
  obtain ⟨u, rfl, rx⟩ := vals1' r
  cases rx
  obtain ⟨its, rv, pl, hz⟩ := I.tuple hq
  refine call_set_tupI (P := X.prog) (w := X.w) ns (I.ok.hd hc) (show s.heap.IsTuple l its.toArray from pl) (by simpa using rv.ints) (by unfold scanBound; omega) fun h' tk c R hcl k => ?_
  exact ⟨.ref s.heap.objs.size, _, I.laid (t' := tk) k (Nat.le_refl _) (setO_new R), rfl, q _ c (I.hok.fresh (Nat.le_refl _)) hcl⟩
def rSetTT (K : PySem.W.Frag) (P : Program) (w : World) : List V → Hp → VK → Prop := fun xs H Q => ∃ (l : Addr) (ks : List (Addr × List Int)), xs = [V.ref l] ∧ SqT K H l (ks.map fun p => V.ref p.1) ∧ (∀ p ∈ ks, SqT K H p.1 (p.2.map V.int)) ∧ FewD ks ∧
  ∀ a L, H a = none → (∀ p ∈ L, p ∈ ks) → (∀ p ∈ ks, p.2 ∈ L.map (·.2)) → Q (.ref a) (upd H a (SetTO P w a L))
theorem cr_setTT (hc : X.calm = true) (hu : X.A.units + 64 < cLine) : CallR X (.type "set") (rSetTT X.K X.prog X.w) := by
  intro pins s σ H xs us Q I r ⟨l, ks, e, hl, hk, few, q⟩
  subst e
  obtain ⟨u, rfl, rx⟩ := vals1' r
  cases rx
  obtain ⟨its, rv, pl, hz⟩ := I.tuple hl
  have hn : H s.heap.objs.size = none := I.hok.fresh (Nat.le_refl _)
  refine set_of_tupsT (P := X.prog) (w := X.w) ks (I.ok.hd hc) (show s.heap.IsTuple l its.toArray from pl) (by simpa using refs_of_vals rv) (fun p hp => I.isT (hk p hp)) few (by omega) fun h' tk L es ep t R g k => ?_
  exact ⟨.ref s.heap.objs.size, _, I.laid (t' := tk) k (Nat.le_refl _) (setTO_new R.t0), rfl, q _ L hn (fun p hp => List.mem_of_mem_take (g.sub p hp)) fun p hp => g.all p (by rw [List.take_length]; exact hp)⟩
end
def mSSt (m : M) : M := fun ρ => (m ρ).bind fun p => match pk p.2 p.1 with
  | some (.tuple ds) => match gSS ds with
    | some out => .ok (.new (.lst out), p.2)
    | none => .stuck
  | _ => .stuck
section
variable {X : Cx} {W : WX} {e : Expr} {pos pos2 p1 p2 : Pos} {m : M}
theorem pe_mSSt (rm : Rm X.A) (hc : X.calm = true) (hg : Gl X "sorted") (hm : X.mg "sorted" = none) (hg2 : Gl X "set") (hm2 : X.mg "set" = none) (he : PE X e (tOf X.K X.mg W m))
    (hs : starEach [e] X.env = (false, eval e X.env) :: starEach [] X.env) (hs2 : starEach [.Call (.Name "set" p2) [e] [] pos2] X.env = (false, eval (.Call (.Name "set" p2) [e] [] pos2) X.env) :: starEach [] X.env)
    (hpl : (backTo pos2 (starEach [] X.env)).any (·.1) = false) (hpl2 : (backTo pos (starEach [] X.env)).any (·.1) = false) :
    PE X (.Call (.Name "sorted" p1) [.Call (.Name "set" p2) [e] [] pos2] [] pos) (tOf X.K X.mg W (mSSt m)) := by
  have hu : X.A.units + 64 < cLine := by have := rm.un; omega
  have s1 : PE X (.Call (.Name "set" p2) [e] [] pos2) _ := pe_callTy (cr_setIT hc) hg2 hm2 PyProof.Rows.boot_set (pa_cons he pa_nil hs) (by decide) (by decide) hs hpl
  have s2 : PE X (.Call (.Name "set" p2) [e] [] pos2) _ := pe_callTy (cr_setTT hc hu) hg2 hm2 PyProof.Rows.boot_set (pa_cons he pa_nil hs) (by decide) (by decide) hs hpl
  have t1 : PE X (.Call (.Name "sorted" p1) [.Call (.Name "set" p2) [e] [] pos2] [] pos) _ := pe_callB (cr_sortedSet hc) hg hm (by decide +kernel) (pa_cons s1 pa_nil hs2) (by decide) (by decide) hs2 hpl2
  have t2 : PE X (.Call (.Name "sorted" p1) [.Call (.Name "set" p2) [e] [] pos2] [] pos) _ := pe_callB (cr_sortedT hc) hg hm (by decide +kernel) (pa_cons s2 pa_nil hs2) (by decide) (by decide) hs2 hpl2
  refine ⟨fun pins s σ H Q I ⟨ρ, S, q⟩ => ?_⟩
  unfold mSSt at q
  cases e1 : m ρ with
  | stuck => rw [e1] at q; exact q.elim
  | exc x => rw [e1] at q; exact t1.run pins s σ H Q I ⟨ρ, S, by rw [e1]; exact q⟩
  | ok pr =>
    obtain ⟨r, ρ1⟩ := pr
    rw [e1] at q
    simp only [Ot.bind] at q
    cases e2 : pk ρ1 r with
    | none => rw [e2] at q; exact q.elim
    | some x =>
      rw [e2] at q
      cases x <;> try (exact q.elim)
      rename_i ds
      simp only at q
      cases e3 : gSS ds with
      | none => rw [e3] at q; exact q.elim
      | some out =>
        rw [e3] at q
        unfold gSS at e3
        split at e3
        · rename_i ns en
          split at e3
          case isFalse => cases e3
          rename_i hl
          cases e3
          have ed := intsOf_some en
          refine t1.run pins s σ H Q I ⟨ρ, S, ?_⟩
          rw [e1]
          intro v H1 p1
          obtain ⟨a, vs, rfl, hq, rs⟩ := (pk_rep p1.sim p1.at_ e2).tp
          rw [ed] at rs
          have ev := reps_ints rs
          subst ev
          refine ⟨a, ns, rfl, hq, hl, fun b c hb hcl => ⟨b, _, c, rfl, upd_same, by omega, fun ns' p hs hmem hlen hp => ?_⟩⟩
          have hout : ns'.map PyData.int = dd (isort ds) := by
            rw [ed]
            refine sortset_eq int_anti ?_ fun z => ?_
            · rw [List.pairwise_map]
              refine hs.imp fun {x y} h => ?_
              rw [leD_int]
              simp only [decide_eq_false_iff_not]
              omega
            · rw [List.mem_map, List.mem_map]
              constructor
              · rintro ⟨k, hk, rfl⟩
                exact ⟨k, by simpa using (hmem k).mp hk, rfl⟩
              · rintro ⟨k, hk, rfl⟩
                exact ⟨k, (hmem k).mpr (by simpa using hk), rfl⟩
          have m2 := Mid.updN (o := SetO X.w b (fun j => decide (j ∈ ns)) c) p1.sim hb
          have m3 := Mid.updN (o := .lst (ns'.map V.int)) m2.sim hp
          refine q _ _ ((p1.mid.trans (m2.trans m3)).post ⟨p, _, rfl, upd_same, ?_, m2.sim.not_ow hp⟩ fun a e => ?_)
          · rw [← hout]
            exact ints_reps ns'
          · cases e
            exact p1.grow _ (m2.grow _ hp)
        · split at e3
          case h_2 => cases e3
          rename_i x xs r'
          split at e3
          case h_2 => cases e3
          rename_i ns en
          split at e3
          case isFalse => cases e3
          rename_i hl
          cases e3
          obtain ⟨ed, hbd⟩ := tupsOf_some en
          refine t2.run pins s σ H Q I ⟨ρ, S, ?_⟩
          rw [e1]
          intro v H1 p1
          obtain ⟨a, vs, rfl, hq, rs⟩ := (pk_rep p1.sim p1.at_ e2).tp
          rw [ed] at rs
          obtain ⟨ks, ev, en2, hk⟩ := reps_tups rs
          subst ev
          subst en2
          have hlk : FewD ks := few_of (by
            have e0 : (ks.map fun p => tupI p.2) = (ks.map Prod.snd).map tupI := by rw [List.map_map]; rfl
            rw [e0, ← ed]
            exact hl)
          refine ⟨a, ks, rfl, hq, hk, hlk, fun b L hb hsub hall => ?_⟩
          have m2 := Mid.updN (o := SetTO X.prog X.w b L) p1.sim hb
          refine ⟨b, L, x.length + 1, bigB, rfl, upd_same, fun p hp => (m2.pers p1.sim).sqT (hk p (hsub p hp)), by omega, fun p hp => hbd _ (List.mem_map_of_mem (hsub p hp)), fun L' p pm nd hL' pw hp => ?_⟩
          have hsub' : ∀ p ∈ L', p ∈ ks := fun p hp => hsub p (pm.mem_iff.mp hp)
          have hout : L'.map (fun p => tupI p.2) = dd (isort (ks.map fun p => tupI p.2)) := by
            have e0 : (ks.map fun p => tupI p.2) = (ks.map Prod.snd).map tupI := by rw [List.map_map]; rfl
            refine sortset_eq (by rw [e0]; exact tup_anti) ?_ fun z => ?_
            · rw [List.pairwise_map]
              have both := List.Pairwise.and pw (List.pairwise_map.mp nd)
              refine List.Pairwise.imp_of_mem (fun {x y} hx hy h => ?_) both
              rw [leD_tup]
              simp only [Bool.not_eq_false', decide_eq_true_eq]
              have bx := hbd _ (List.mem_map_of_mem (hsub' x hx))
              have by' := hbd _ (List.mem_map_of_mem (hsub' y hy))
              by_cases h1 : x.2 < y.2
              · exact h1
              · exfalso
                by_cases h2 : y.2 < x.2
                · have := code_lt_of (by rw [bx.1, by'.1]) by'.2 bx.2 h2
                  have h3 := h.1
                  omega
                · exact h.2 (List.le_antisymm (List.not_lt.mp h2) (List.not_lt.mp h1))
            · rw [List.mem_map, List.mem_map]
              constructor
              · rintro ⟨k, hk', rfl⟩
                exact ⟨k, hsub' k hk', rfl⟩
              · rintro ⟨k, hk', rfl⟩
                obtain ⟨k2, hk2, e⟩ := List.mem_map.mp (hall k hk')
                exact ⟨k2, pm.mem_iff.mpr hk2, by rw [e]⟩
          have m3 := Mid.updN (o := .lst (L'.map fun q => V.ref q.1)) m2.sim hp
          refine q _ _ ((p1.mid.trans (m2.trans m3)).post ⟨p, _, rfl, upd_same, ?_, m2.sim.not_ow hp⟩ fun a e => ?_)
          · rw [ed, List.map_map]
            show RepDs _ _ _ (dd (isort (ks.map fun p => tupI p.2)))
            rw [← hout]
            exact RepDs.pers (m3.pers m2.sim) (tups_reps L' fun p hp' => (m2.pers p1.sim).sqT (hk p (hsub' p hp')))
          · cases e
            exact p1.grow _ (m2.grow _ hp)
def mSSA (m : M) : M := fun ρ => match mSS m ρ with
  | .stuck => mSSt m ρ
  | r => r
theorem pe_mSSA (rm : Rm X.A) (hc : X.calm = true) (hg : Gl X "sorted") (hm : X.mg "sorted" = none) (hg2 : Gl X "set") (hm2 : X.mg "set" = none) (he : PE X e (tOf X.K X.mg W m))
    (hs : starEach [e] X.env = (false, eval e X.env) :: starEach [] X.env) (hs2 : starEach [.Call (.Name "set" p2) [e] [] pos2] X.env = (false, eval (.Call (.Name "set" p2) [e] [] pos2) X.env) :: starEach [] X.env)
    (hpl : (backTo pos2 (starEach [] X.env)).any (·.1) = false) (hpl2 : (backTo pos (starEach [] X.env)).any (·.1) = false) :
    PE X (.Call (.Name "sorted" p1) [.Call (.Name "set" p2) [e] [] pos2] [] pos) (tOf X.K X.mg W (mSSA m)) := by
  refine PE.weak (PE.or (pe_mSS rm hc hg hm hg2 hm2 he hs hs2 hpl hpl2) (pe_mSSt rm hc hg hm hg2 hm2 he hs hs2 hpl hpl2)) fun σ H Q ⟨ρ, S, q⟩ => ?_
  unfold mSSA at q
  cases e1 : mSS m ρ with
  | stuck => rw [e1] at q; exact .inr ⟨ρ, S, q⟩
  | exc x => rw [e1] at q; exact .inl ⟨ρ, S, by rw [e1]; exact q⟩
  | ok x => rw [e1] at q; exact .inl ⟨ρ, S, by rw [e1]; exact q⟩
end
/-! ### a list times an int -/
theorem op_repL {X : Cx} {pins : List (Addr × Obj)} {s : Shared} {σ : L2.St} {H : Hp} {Q : VK} {l : Addr} {k : Int} {xs : List V} {v u : Value} (I : Inv X pins σ H s) (rx : RelV (.ref l) v) (ry : RelV (.int k) u) (hH : Rd H l (.lst xs)) (h1 : -(2 ^ 63) ≤ k) (h2 : k < 2 ^ 63)
    (hz : xs.length * k.toNat ≤ sizeLine) (q : ∀ p, H p = none → Q (.ref p) (upd H p (.lst (List.replicate k.toNat xs).flatten))) : wpAny (model X.prog X.w) X.A (binaryOp .Mult v u) (EP X pins σ Q) X.xe s := by
  cases rx
  obtain ⟨t, rfl⟩ := ry
  obtain ⟨z, its, n, r, hl, e⟩ := rd_obj I hH
  have hlen : its.toArray.size * k.toNat ≤ sizeLine := by rw [List.size_toArray, ← hl]; exact hz
  have hcap : ¬ its.toArray.size * k.toNat > (2 ^ 63 - 1) / 8 := by
    have : (sizeLine : Nat) ≤ (2 ^ 63 - 1) / 8 := by decide
    omega
  have hfit : ¬ (!Builtin.List.listFitsIndex k) = true := by
    rw [fitsIndex_both h1 h2]
    exact Bool.false_ne_true
  have hlong : ¬ Builtin.List.listTooLong (its.toArray.size * k.toNat) = true := by
    rw [notLongL hlen]
    exact Bool.false_ne_true
  have hnew : List.foldl (fun x1 x2 => x1 ++ x2) #[] (List.replicate (if its.toArray.isEmpty = true then 0 else k.toNat) its.toArray) = (List.replicate k.toNat its).flatten.toArray := by
    have f0 : ∀ m : Nat, List.foldl (fun x1 x2 => x1 ++ x2) #[] (List.replicate m its.toArray) = (List.replicate m its).flatten.toArray := fun m => by
      have := foldl_rep its m []
      rw [List.nil_append] at this
      exact this
    rw [f0]
    cases its with
    | nil => simp
    | cons a r' => rw [if_neg (by simp)]
  refine wpAny_binaryOp_repeat_ref (T := "list") (U := "int") (by decide) ⟨_, e, rfl⟩ (fun s' => typeIs_int s' k t) noFill_list_mul F.fills_int_mul F.slot_int_rmul repeat_list F.slot_int_index.lookup
    (call_meets F.slot_int_rmul (typeIs_int s k t) F.entry_int_rmul (F.args_int_rmul_2 _ _) (int___rmul___int_list k t l its.toArray n)
      ⟨e, rfl, ⟨_, e, rfl⟩, call_meets F.slot_list_mul ⟨_, e, rfl⟩ F.entry_list_mul (F.args_list_mul_2 _ _) (AutoListH.list___mul___list_int_3 l its.toArray n k t hfit hcap hlong) ⟨e, ?_⟩⟩)
  rw [hnew]
  exact ⟨.ref _, _, I.lnew (t' := s.toks) (r.rep k.toNat) (by rw [PyProof.Rows.lm_len_rep_flat, Nat.mul_comm]; exact hz), rfl, q _ I.fresh⟩
def gMulA : D → D → Option Res
  | .list xs, .int j => if decide (j.natAbs < 2 ^ 62) && decide (xs.length * j.toNat ≤ sizeLine) then some (.lst (List.replicate j.toNat xs).flatten) else none
  | x, y => gMulI x y
theorem og_mulA {X : Cx} : OpR X (binaryOp .Mult) (rD2 X.K gMulA) := by
  intro pins s σ H x y v u Q I rx ry ⟨dx, dy, res, px, py, eg, q⟩
  by_cases h : ∃ xs j, dx = .list xs ∧ dy = .int j
  · obtain ⟨xs, j, rfl, rfl⟩ := h
    dsimp only [gMulA] at eg
    split at eg
    case isFalse => cases eg
    rename_i hc
    simp only [Bool.and_eq_true, decide_eq_true_eq] at hc
    cases eg
    obtain ⟨a, vs, rfl, ha, r1⟩ := px.ls
    have e2 := py.i
    subst e2
    exact op_repL I rx ry ha (by omega) (by omega) (by rw [r1.length]; exact hc.2) fun p hp => q p _ hp (r1.flat _)
  · refine og_mulI pins s σ H x y v u Q I rx ry ⟨dx, dy, res, px, py, ?_, q⟩
    rw [← eg]
    unfold gMulA
    split
    · rename_i xs j
      exact absurd ⟨xs, j, rfl, rfl⟩ h
    · rfl
end Mp
set_option maxHeartbeats 1000000
/-! Mp39: names of texts; enumerate of a tuple. -/
namespace Mp
open PySem PySem.Spec PyProof.Rows L2 RZ
open AutoSeq1 (wpAny_loadPart')
theorem pe_mGs {X : Cx} {W : WX} {x z : Str} {pos : Pos} (hg : Gl X x) (h : ∃ t, X.mg x = some (.str z t)) (hd : (x == ("__debug__" : Str)) = false) : PE X (.Name x pos) (tOf X.K X.mg W (mK (.str z))) := by
  obtain ⟨t, h⟩ := h
  exact pe_mglob (v := .str z) hg h ⟨t, rfl⟩ (fun _ => .str z) hd
theorem meets_enumT (l : Addr) (items : Array Value) (n : Nat) (dct : Option Addr) (sl : Array (Option Value)) :
    Meets (Builtin.«enumerate.__new__» ⟨[.type "enumerate", .ref l], []⟩) (fun _ R s => s.heap.get? l = some { cls := .type "tuple", dict := dct, data := .seq items n, slots := sl } ∧
      R (.ok (.ret (.ref (s.heap.push { cls := .type "tuple_iterator", data := .fields #[.ref l, .int 0 0] }).objs.size)))
        { s with heap := (s.heap.push { cls := .type "tuple_iterator", data := .fields #[.ref l, .int 0 0] }).push { cls := .type "enumerate", data := .fields #[.none, .bool false, .ref s.heap.objs.size, rawInt 0, .none, .none] } }) :=
  .of_wp fun prog w A R s h => by
    obtain ⟨hp, g, d, tk, os⟩ := s; obtain ⟨hl, h⟩ := h
    have hsub := sub_enumerate
    have hL : Heap.IsTuple (Shared.heap ⟨hp, g, d, tk, os⟩) l items := ⟨_, hl, rfl, n, rfl⟩
    wp_walk using wpAny_loadPart' hl
    refine wpAny_stack_any fun st => wpAny_pure ?_
    split
    · rename_i c _ _ _ _ _
      cases (c == Value.type "enumerate")
      · wp_walk using wpAny_loadPart' hl, wpAny_pyIter_tuple hL
        exact ⟨_, rfl, h⟩
      · wp_walk using wpAny_loadPart' hl, wpAny_pyIter_tuple hL
        exact ⟨_, rfl, h⟩
    · wp_walk using wpAny_loadPart' hl, wpAny_pyIter_tuple hL
      exact ⟨_, rfl, h⟩
theorem call_enumT {prog : Program} {w : World} {A : Around} {E : Value → Shared → Prop} {s : Shared} {l : Addr} {items : Array Value} {Q : Value → Shared → Prop} (hL : s.heap.IsTuple l items)
    (h : ∀ h', IsEnum h' (s.heap.objs.size + 1) s.heap.objs.size 0 .none → h'.IsTupleIter s.heap.objs.size l 0 → h'.objs.size = s.heap.objs.size + 2 →
      (∀ b o, s.heap.get? b = some o → h'.get? b = some o) → Q (.ref (s.heap.objs.size + 1)) { s with heap := h' }) :
    wpAny (model prog w) A (call (.type "enumerate") [.ref l]) Q E s := by
  obtain ⟨⟨c, dct, dt, sl⟩, hl, hc, n, hd⟩ := hL
  replace hc : c = .type "tuple" := hc
  replace hd : dt = .seq items n := hd
  subst hc hd
  refine callType_new F.called_enumerate (by decide) (F.typeCall_enumerate_1 _) (F.newCall_enumerate_1 _) (fun obj => F.args_object_init_2 obj _) F.entry_enumerate_new
    (meets_enumT l items n dct sl) ⟨hl, ?_⟩
  have hz : (s.heap.push { cls := .type "tuple_iterator", data := .fields #[.ref l, .int 0 0] }).objs.size = s.heap.objs.size + 1 := Heap.size_push ..
  show _ ∧ _
  rw [hz]
  have he : IsEnum ((s.heap.push { cls := .type "tuple_iterator", data := .fields #[.ref l, .int 0 0] }).push
      { cls := .type "enumerate", data := .fields #[.none, .bool false, .ref s.heap.objs.size, rawInt 0, .none, .none] }) (s.heap.objs.size + 1) s.heap.objs.size 0 .none := by
    have := Heap.get?_push_size (s.heap.push { cls := .type "tuple_iterator", data := .fields #[.ref l, .int 0 0] })
      (o := { cls := .type "enumerate", data := .fields #[.none, .bool false, .ref s.heap.objs.size, rawInt 0, .none, .none] }) rfl
    rw [hz] at this; exact this
  exact ⟨⟨_, he, rfl⟩, h _ he ⟨_, Heap.get?_push_of_some _ (Heap.get?_push_size _ rfl), rfl, rfl⟩ (by rw [Heap.size_push, hz]) fun b o x => Heap.get?_push_of_some _ (Heap.get?_push_of_some _ x)⟩
/-- the tuple at a as it stands at each turn, each item in a new pair -/
def IteT (K : PySem.W.Frag) (a : Addr) : It :=
  ⟨fun i H => ∃ (xs : List V) (x : V), SqT K H a xs ∧ xs[i]? = some x, fun i H v H' => ∃ T x, v = .ref T ∧ H T = none ∧ H' = upd H T (.tup [.int (i : Nat), x]) ∧ ∀ xs, SqT K H a xs → xs[i]? = some x, fun i H => ∃ xs : List V, SqT K H a xs ∧ xs.length ≤ i⟩
theorem turn_enumT {P : Program} {w : World} {K : PySem.W.Frag} {elts : List Expr} {kk : Nat} {tpos : Pos} (a e it : Addr) :
    Turn P w K (.Tuple elts kk tpos) (IteT K a) [e, it] e (fun i h => (∃ old, IsEnum h e it ((i : Nat) : Int) old) ∧ h.IsTupleIter it a i ∧ e ≠ it ∧ a ≠ it ∧ e ≠ a) where
  mem := by simp
  obj := fun i h st b hb => by
    obtain ⟨⟨old, he⟩, ⟨o, ho, hc, hd⟩, _⟩ := st
    have e' : b = e ∨ b = it := by simpa using hb
    rcases e' with z | z
    · rw [z]; exact ⟨_, he, fun v q => nomatch q⟩
    · rw [z]; exact ⟨o, ho, fun v q => by rw [hd] at q; cases q⟩
  keep := fun i h h' st k => let ⟨⟨old, he⟩, hi, hne⟩ := st; ⟨⟨old, k e (by simp) _ he⟩, hi.at fun o q => k it (by simp) o q, hne⟩
  item := by
    intro X hP hw hK hc i pins s σ H E I hf st hg
    subst hP hw hK
    obtain ⟨⟨old, he⟩, hit, hne, hai, hea⟩ := st
    obtain ⟨xs, x, hq, hx⟩ := hg
    obtain ⟨its, rv, p, hz⟩ := I.tuple hq
    obtain ⟨u, hu, ru⟩ := rv.get hx
    have hel : e < s.heap.objs.size := Heap.lt_size he
    have hil : it < s.heap.objs.size := by obtain ⟨_, q, _⟩ := hit; exact Heap.lt_size q
    have hlt : i < its.toArray.size := by
      rw [List.size_toArray]
      exact (List.getElem?_eq_some_iff.mp hu).1
    refine wpAny_pyNext_enum_itemD (Draws.tuple (A := X.A.in1) (show X.A.in1.handled = none from I.ok.hd hc) it a hai its.toArray) he ⟨hit, p⟩ hlt hne (by simp [hne, hea]) fun x' h' tk hP ho hst' hT hsz hk => ?_
    have hxu : x' = u := by
      have h1 : its.toArray[i]? = some u := by simpa using hu
      exact Option.some.inj (hP.symm.trans h1)
    subst hxu
    obtain ⟨hit', _⟩ := hst'
    refine ⟨_, rfl, wpAny_letOwnedTupleGo_enum (s := { s with heap := h', toks := tk + 1 }) ho fun h'' he' sb => ?_⟩
    have hT2 : h''.get? s.heap.objs.size = some { cls := .type "tuple", data := .seq #[.int i tk, x'] } := (sb.2 _ (Nat.ne_of_gt hel)).trans hT
    have new : ObjOk X.prog X.w (upd H s.heap.objs.size (.tup [.int (i : Nat), x])) h'' s.heap.objs.size (.tup [.int (i : Nat), x]) :=
      ⟨by show 2 ≤ sizeLine; decide, [.int i tk, x'], .cons ⟨_, rfl⟩ (.cons ru .nil), ⟨_, hT2, rfl, _, rfl⟩⟩
    have I1 : Inv X pins σ (upd H s.heap.objs.size (.tup [.int (i : Nat), x])) { s with heap := h'', toks := tk + 1 } :=
      I.turnedNew (ch := [e, it]) (fun b ob hb q => (sb.2 b (fun z => hb (by simp [z]))).trans (hk b ob (fun z => hb (by simp [z])) (fun z => hb (by simp [z])) q)) hf (Nat.le_refl _) new
    refine ⟨.ref s.heap.objs.size, _, I1, rfl, ⟨_, x, rfl, I.hok.fresh (Nat.le_refl _), rfl, fun ys hy => by rw [I.tuple_inj hy hq]; exact hx⟩, ⟨⟨x', ?_⟩, hit'.at fun o q => (sb.2 it (Ne.symm hne)).trans q, hne, hai, hea⟩, fun b hb => ?_⟩
    · have e1 : ((i + 1 : Nat) : Int) = (i : Int) + 1 := by omega
      rw [e1]; exact he'
    · have hb' : b < s.heap.objs.size := by
        have e' : b = e ∨ b = it := by simpa using hb
        rcases e' with z | z
        · rw [z]; exact hel
        · rw [z]; exact hil
      rw [upd_ne (Nat.ne_of_lt hb')]
      exact (hf b hb).1
  done := by
    intro X hP hw hK hc i pins s σ H E I hf st hg
    subst hP hw hK
    obtain ⟨⟨old, he⟩, hit, hne, hai, hea⟩ := st
    obtain ⟨xs, hq, hx⟩ := hg
    obtain ⟨its, rv, p, hz⟩ := I.tuple hq
    obtain ⟨f0, f1, f2, f3, f4, f5⟩ := hf it (by simp)
    have hl := rv.length
    have hT : s.TypeIs (.ref e) "enumerate" := ⟨_, he, rfl⟩
    unfold pyNext
    refine wpAny_bind (wpAny_attempt (wpAny_callSpecial?_slot (name := Str.ofString "__next__") hT F.slot_enumerate_next
      (wpAny_call_entry F.slot_enumerate_next hT F.entry_enumerate_next ?_ (F.args_enumerate_next_1 _))))
    show wpAny _ _ (field (.ref e) 2 >>= _) _ _ _
    refine wpAny_bind (wpAny_field he rfl (x := .ref it) rfl ?_)
    refine wpAny_bind (wpAny_nextOf_tuple_end (I.ok.hd hc) hit p (by simp; omega) fun h' x he' hx' => ?_)
    obtain ⟨o, ho, hc⟩ := hx'
    refine wpAny_bind (wpAny_isInstance (T := "StopIteration") (b := true) ⟨o, ho, hc⟩ isSubtype_stop ?_)
    exact wpAny_pure ⟨rfl, I.turned (t' := s.toks) (fun b o hb q => he' b o hb q) f0 f1 f3 f4 f5⟩
  self := fun A i s Q E st h => let ⟨⟨_, he⟩, _⟩ := st; wpAny_pyIter_enum he h
def iEnumT (K : PySem.W.Frag) (ta : TA) : TI := fun σ H R => ta σ H fun vs H1 => ∃ a xs, vs = [.ref a] ∧ ((SqL K H1 a xs ∧ R (Ite K a) H1) ∨ (SqT K H1 a xs ∧ R (IteT K a) H1))
theorem pi_enumT {X : Cx} {e : Expr} {ta : TA} {p pos tpos : Pos} {elts : List Expr} {kk : Nat} (hg : Gl X "enumerate") (hm : X.mg "enumerate" = none) (ha : PA X [e] ta) (hs : starEach [e] X.env = [(false, eval e X.env)] := by rfl) :
    PI X (.Tuple elts kk tpos) (.Call (.Name "enumerate" p) [e] [] pos) (iEnumT X.K ta) := by
  refine ⟨fun pins s σ H R I h => ?_⟩
  refine Call_ (ld_blt I hg hm boot_enumerate (PyProof.Rows.callWith_type1 (thn (ha.run pos pins s σ H _ I h) fun us s1 ⟨vs, H1, I1, r1, q1⟩ => ?_) hs rfl))
  obtain ⟨a, xs, ex, q⟩ := q1
  subst ex
  cases r1 with
  | cons r rr =>
    cases rr
    cases r
    have fp : ∀ b ∈ [s1.heap.objs.size + 1, s1.heap.objs.size], FpOk X pins H1 b := fun b hb => by
      have e' : b = s1.heap.objs.size + 1 ∨ b = s1.heap.objs.size := by simpa using hb
      have hle : s1.heap.objs.size ≤ b := by
        rcases e' with z | z
        · rw [z]; exact Nat.le_add_right _ _
        · rw [z]; exact Nat.le_refl _
      exact I1.fpOk hle (I1.hok.fresh hle)
    rcases q with ⟨hq, q⟩ | ⟨hq, q⟩
    · obtain ⟨its, rv, p', hz⟩ := I1.list hq
      refine call_enumerate_list p'.isList fun h' he hit hsz hk => wpAny_pyIter_enum he ?_
      have I2 : Inv X pins σ H1 { s1 with heap := h' } := I1.kept (t' := s1.toks) hk
      exact ⟨s1.heap.objs.size + 1, [s1.heap.objs.size + 1, s1.heap.objs.size], _, _, H1, rfl, I2, turn_enum a (s1.heap.objs.size + 1) s1.heap.objs.size, ⟨⟨.none, he⟩, hit, Nat.succ_ne_self _⟩, fp, q⟩
    · obtain ⟨its, rv, p', hz⟩ := I1.tuple hq
      obtain ⟨oa, hoa, _⟩ := id p'
      have hal : a < s1.heap.objs.size := Heap.lt_size hoa
      refine call_enumT (show s1.heap.IsTuple a its.toArray from p') fun h' he hit hsz hk => wpAny_pyIter_enum he ?_
      have I2 : Inv X pins σ H1 { s1 with heap := h' } := I1.kept (t' := s1.toks) hk
      exact ⟨s1.heap.objs.size + 1, [s1.heap.objs.size + 1, s1.heap.objs.size], _, _, H1, rfl, I2, turn_enumT a (s1.heap.objs.size + 1) s1.heap.objs.size, ⟨⟨.none, he⟩, hit, Nat.succ_ne_self _, Nat.ne_of_lt hal, Nat.ne_of_gt (Nat.lt_succ_of_lt hal)⟩, fp, q⟩
/-- enumerate of a list, of a tuple -/
theorem yl_enumT {K : PySem.W.Frag} {H : Hp} {a : Addr} {vs : List V} {xs : List D} (hp : ∀ H2, Pers H H2 → SqT K H2 a vs) (r : RepDs K H vs xs) : YieldsAt K (IteT K a) H (numD 0 xs) := fun i H2 p => by
  have hq := hp H2 p
  refine ⟨fun hi => ⟨vs, hq, by rw [r.length, ← numD_len (n := 0)]; exact hi⟩, fun d hd => ?_⟩
  obtain ⟨x, hx, e⟩ := numD_get hd
  subst e
  obtain ⟨v, ev, rv⟩ := r.get hx
  refine ⟨⟨vs, v, hq, ev⟩, fun z H3 ⟨T, v', ez, hT, eH, h1⟩ => ?_⟩
  subst ez; subst eH
  have h1 := h1 vs hq
  rw [ev] at h1
  cases h1
  rw [Nat.zero_add]
  exact yl_pair hT (.int _) (rv.pers p)
def mEnumA (m : M) : MI := fun ρ => (mD m ρ).bind fun p => match p.1 with
  | .d (.list xs) => .ok (numD 0 xs, p.2)
  | .d (.tuple xs) => .ok (numD 0 xs, p.2)
  | _ => .stuck
theorem pi_mEnumA {X : Cx} {W : WX} {e : Expr} {pos p tpos : Pos} {m : M} {elts : List Expr} {kk : Nat} (hg : Gl X "enumerate") (hm : X.mg "enumerate" = none) (he : PE X e (tOf X.K X.mg W m)) (hs : starEach [e] X.env = [(false, eval e X.env)]) (hs1 : starEach [e] X.env = (false, eval e X.env) :: starEach [] X.env) :
    PI X (.Tuple elts kk tpos) (.Call (.Name "enumerate" p) [e] [] pos) (tI X.K X.mg W (mEnumA m)) := by
  refine PI.weak (pi_enumT hg hm (pa_cons (pe_mD he) pa_nil hs1) hs) fun σ H R ⟨ρ, S, q⟩ => ⟨ρ, S, ?_⟩
  unfold mEnumA at q
  cases e1 : mD m ρ with
  | stuck => rw [e1] at q; exact q.elim
  | exc x => rw [e1] at q; exact q
  | ok p =>
    obtain ⟨r, ρ1⟩ := p
    rw [e1] at q
    simp only [Ot.bind] at q
    intro v H1 p1
    cases r <;> try (exact q.elim)
    rename_i x
    cases x <;> try (exact q.elim)
    case list xs =>
      cases (show RepD X.K H1 v (.list xs) from p1.at_) with
      | lst hq rs => exact ⟨_, _, rfl, .inl ⟨hq.sq, q _ H1 p1.mid (yl_enum (fun H2 pr => (pr.fzL hq).sq) rs)⟩⟩
    case tuple xs =>
      cases (show RepD X.K H1 v (.tuple xs) from p1.at_) with
      | tup hq rs => exact ⟨_, _, rfl, .inr ⟨hq, q _ H1 p1.mid (yl_enumT (fun H2 pr => pr.sqT hq) rs)⟩⟩
/-! ### l.extend of any list, of any tuple -/
theorem meets_extL (l : Addr) (items : Array Value) (n : Nat) (b : Addr) (items2 : Array Value) (n2 : Nat) (dct : Option Addr) (sl : Array (Option Value)) (hs0 : ¬(!items.isEmpty && Builtin.List.listTooLong (items.size + items2.size)) = true) (hs1 : items.size ≤ sizeLine) (hs2 : items.size + items2.size ≤ sizeLine + 1) :
    Meets (Builtin.«list.extend» ⟨[.ref l, .ref b], []⟩) (fun _ R s => s.heap.get? l = some { cls := .type "list", dict := none, data := .seq items n, slots := #[] } ∧ s.heap.get? b = some { cls := .type "list", dict := dct, data := .seq items2 n2, slots := sl } ∧ R (.ok (.ret Value.none)) { s with heap := s.heap.update l (Obj.mapSeq fun x => x ++ items2), toks := s.toks }) :=
  .of_wp fun prog w A R s h => by
    obtain ⟨hp, g, d, tk, os⟩ := s; obtain ⟨hl, hb, h⟩ := h; have f1 := AutoSeq1.idx_int; have f2 := AutoSeq1.sub_tuple_tuple; have f3 := AutoSeq1.sub_list_list; have f4 := AutoSeq1.sub_tuple_list; have f5 := AutoSeq1.sub_list_tuple;
    have hz' : (items ++ items2).size ≤ sizeLine + 1 := by rw [Array.size_append]; exact hs2
    wp_walk using (wpAny_updateSeq hl rfl (hz := hs1) (_hz' := hz')), wpAny_loadPart' hl, wpAny_loadPart' hb; exact ⟨_, rfl, h⟩
theorem meets_extT (l : Addr) (items : Array Value) (n : Nat) (b : Addr) (items2 : Array Value) (n2 : Nat) (dct : Option Addr) (sl : Array (Option Value)) (hs0 : ¬(!items.isEmpty && Builtin.List.listTooLong (items.size + items2.size)) = true) (hs1 : items.size ≤ sizeLine) (hs2 : items.size + items2.size ≤ sizeLine + 1) :
    Meets (Builtin.«list.extend» ⟨[.ref l, .ref b], []⟩) (fun _ R s => s.heap.get? l = some { cls := .type "list", dict := none, data := .seq items n, slots := #[] } ∧ s.heap.get? b = some { cls := .type "tuple", dict := dct, data := .seq items2 n2, slots := sl } ∧ R (.ok (.ret Value.none)) { s with heap := s.heap.update l (Obj.mapSeq fun x => x ++ items2), toks := s.toks }) :=
  .of_wp fun prog w A R s h => by
    obtain ⟨hp, g, d, tk, os⟩ := s; obtain ⟨hl, hb, h⟩ := h; have f1 := AutoSeq1.idx_int; have f2 := AutoSeq1.sub_tuple_tuple; have f3 := AutoSeq1.sub_list_list; have f4 := AutoSeq1.sub_tuple_list; have f5 := AutoSeq1.sub_list_tuple;
    have hz' : (items ++ items2).size ≤ sizeLine + 1 := by rw [Array.size_append]; exact hs2
    wp_walk using (wpAny_updateSeq hl rfl (hz := hs1) (_hz' := hz')), wpAny_loadPart' hl, wpAny_loadPart' hb; exact ⟨_, rfl, h⟩
def rExtendF (K : PySem.W.Frag) : V → List V → Hp → VK → Prop := fun x vs H Q => ∃ l b xs zs, x = .ref l ∧ vs = [.ref b] ∧ H l = some (.lst xs) ∧ (SqL K H b zs ∨ SqT K H b zs) ∧ xs.length + zs.length ≤ sizeLine ∧ Q .non (upd H l (.lst (xs ++ zs)))
theorem mt_extendF {X : Cx} : MtR X "list.extend" (rExtendF X.K) := by
  intro pins s σ H x vs v us Q I rx rv h
  obtain ⟨l, b, xs, zs, rfl, rfl, hH, hB, hz, q⟩ := h
  cases rx
  obtain ⟨u, rfl, ru⟩ := rv.one
  cases ru
  obtain ⟨z, its, n, r, hl, e⟩ := I.lstM hH
  rcases hB with hB | hB
  · obtain ⟨its2, r2, p2, hl2⟩ := I.list hB
    obtain ⟨⟨c, dct, dt, sl⟩, n2, e2, hc2, hd2, hdt2⟩ := p2
    have l2 := r2.length
    replace hc2 : c = .type "list" := hc2
    replace hdt2 : dt = .seq its2.toArray n2 := by simpa using hdt2
    subst hc2 hdt2
    have hsz : its.toArray.size + its2.toArray.size ≤ sizeLine := by rw [List.size_toArray, List.size_toArray]; omega
    have hlong : ¬ (!its.toArray.isEmpty && Builtin.List.listTooLong (its.toArray.size + its2.toArray.size)) = true := by
      rw [notLongL hsz, Bool.and_false]
      exact Bool.false_ne_true
    refine call_meets F.slot_list_extend ⟨_, e, rfl⟩ F.entry_list_extend (F.args_list_extend_2 _ _)
      (meets_extL l its.toArray n b its2.toArray n2 dct sl hlong (by rw [List.size_toArray]; omega) (by omega)) ⟨e, e2, ?_⟩
    refine ⟨.non, _, I.lset (its' := its ++ its2) hH e (by simp) (r.append r2) ?_, rfl, q⟩
    rw [List.length_append]
    omega
  · obtain ⟨its2, r2, p2, hl2⟩ := I.tuple hB
    obtain ⟨⟨c, dct, dt, sl⟩, e2, hc2, n2, hdt2⟩ := p2
    have l2 := r2.length
    replace hc2 : c = .type "tuple" := hc2
    replace hdt2 : dt = .seq its2.toArray n2 := by simpa using hdt2
    subst hc2 hdt2
    have hsz : its.toArray.size + its2.toArray.size ≤ sizeLine := by rw [List.size_toArray, List.size_toArray]; omega
    have hlong : ¬ (!its.toArray.isEmpty && Builtin.List.listTooLong (its.toArray.size + its2.toArray.size)) = true := by
      rw [notLongL hsz, Bool.and_false]
      exact Bool.false_ne_true
    refine call_meets F.slot_list_extend ⟨_, e, rfl⟩ F.entry_list_extend (F.args_list_extend_2 _ _)
      (meets_extT l its.toArray n b its2.toArray n2 dct sl hlong (by rw [List.size_toArray]; omega) (by omega)) ⟨e, e2, ?_⟩
    refine ⟨.non, _, I.lset (its' := its ++ its2) hH e (by simp) (r.append r2) ?_, rfl, q⟩
    rw [List.length_append]
    omega
/-- what is added: a new list, another name's, a kept list or tuple -/
def extA (ρ : Env) (i : Nat) : Rs → Option (List D)
  | .new (.lst zs) => some zs
  | .d (.list zs) => some zs
  | .d (.tuple zs) => some zs
  | .var j => if i = j then none else match lk ρ j with
    | some (.own (.lst zs)) => some zs
    | some (.d (.list zs)) => some zs
    | some (.d (.tuple zs)) => some zs
    | _ => none
  | _ => none
def mExtA (a b : M) : M := fun ρ => (a ρ).bind fun p => match p.1 with
  | .var i => match ownL p.2 i with
    | some _ => (b p.2).bind fun q => match extA q.2 i q.1, ownL q.2 i with
      | some zs, some xs => if xs.length + zs.length ≤ sizeLine then .ok (.d .none, q.2.set i (some (.own (.lst (xs ++ zs))))) else .stuck
      | _, _ => .stuck
    | none => .stuck
  | _ => .stuck
theorem sqd {K : PySem.W.Frag} {H : Hp} {y : V} {d : D} (h : RepD K H y d) : (∀ zs, d = .list zs → ∃ b zv, y = .ref b ∧ (SqL K H b zv ∨ SqT K H b zv) ∧ RepDs K H zv zs) ∧ (∀ zs, d = .tuple zs → ∃ b zv, y = .ref b ∧ (SqL K H b zv ∨ SqT K H b zv) ∧ RepDs K H zv zs) := by
  refine ⟨fun zs e => ?_, fun zs e => ?_⟩
  · subst e
    cases h with
    | lst hq rs => exact ⟨_, _, rfl, .inl hq.sq, rs⟩
  · subst e
    cases h with
    | tup hq rs => exact ⟨_, _, rfl, .inr hq, rs⟩
section
variable {X : Cx} {W : WX} {e o : Expr} {pos p apos : Pos} {m mo : M}
theorem pe_mExtA (ho : PE X o (tOf X.K X.mg W mo)) (he : PE X e (tOf X.K X.mg W m)) (hbase : attributeBase o "extend" X.env (eval o X.env) = eval o X.env)
    (hfew : ((backTo pos (starEach [e] X.env)).all (fun x => !x.1) && (backToKw pos (keywordEach [] X.env)).all (fun x => x.1.isSome)
      && decide (([e] : List Expr).length + ([] : List Keyword).length + (if ([] : List Keyword).isEmpty then 0 else 1) < 30)) = true)
    (hline : (apos.endLine == pos.line) = true) (hs : starEach [e] X.env = (false, eval e X.env) :: starEach [] X.env) (hpl : (backTo pos (starEach [] X.env)).any (·.1) = false) :
    PE X (.Call (.Attribute o "extend" apos) [e] [] pos) (tOf X.K X.mg W (mExtA mo m)) := by
  refine PE.weak (pe_bm PySem.F.plainAttrs_list PySem.F.slot_list_extend PySem.F.type_list_extend mt_extendF ho (pa_cons he pa_nil hs) hbase hfew hline hs hpl) fun σ H Q ⟨ρ, S, q⟩ => ⟨ρ, S, ?_⟩
  unfold mExtA at q
  cases e1 : mo ρ with
  | stuck => rw [e1] at q; exact q.elim
  | exc x => rw [e1] at q; exact q
  | ok p =>
    obtain ⟨r1, ρ1⟩ := p
    rw [e1] at q
    simp only [Ot.bind] at q
    intro x H1 p1
    cases r1 <;> try (exact q.elim)
    rename_i i
    simp only at q
    cases e2 : ownL ρ1 i with
    | none => rw [e2] at q; exact q.elim
    | some xs0 =>
      rw [e2] at q
      simp only at q
      obtain ⟨c, vs, ex, es, hl, rs⟩ := own_at p1.sim p1.at_ e2
      subst ex
      refine ⟨.inl ⟨rfl, vs, .inl (.inl hl)⟩, ρ1, p1.sim, ?_⟩
      cases e3 : m ρ1 with
      | stuck => rw [e3] at q; exact q.elim
      | exc z =>
        rw [e3] at q
        exact fun cls d H' ex k => q cls d H' ex (p1.keep.trans k fun c z => .inl (p1.sub c z))
      | ok p =>
        obtain ⟨r2, ρ2⟩ := p
        rw [e3] at q
        simp only at q
        intro y H2 p2
        have a1 := RsAt.mid p1.sim p1.at_ p2.mid
        cases e4 : extA ρ2 i r2 with
        | none => rw [e4] at q; exact q.elim
        | some zs =>
          cases e5 : ownL ρ2 i with
          | none => rw [e4, e5] at q; exact q.elim
          | some xs =>
            rw [e4, e5] at q
            simp only at q
            split at q
            case isFalse => exact q.elim
            rename_i hz
            obtain ⟨c', vs', ex, es', hl', rs'⟩ := own_at p2.sim a1 e5
            cases ex
            have arg : ∃ b zv, y = .ref b ∧ (SqL X.K H2 b zv ∨ SqT X.K H2 b zv) ∧ RepDs X.K H2 zv zs := by
              cases r2 with
              | d dd =>
                have hd : RepD X.K H2 y dd := p2.at_
                cases dd <;> try (cases e4; done)
                · cases e4
                  exact (sqd hd).1 _ rfl
                · cases e4
                  exact (sqd hd).2 _ rfl
              | scr _ => cases e4
              | new b =>
                cases b <;> try (cases e4; done)
                cases e4
                obtain ⟨a, o, ey, hb, rb, _⟩ := p2.at_
                obtain ⟨zv, eo, rb⟩ := rb.l
                subst eo
                exact ⟨a, zv, ey, .inl (.inl (.inl hb)), rb⟩
              | var j =>
                dsimp only [extA] at e4
                split at e4
                · cases e4
                · split at e4
                  · rename_i zs' ek
                    cases e4
                    obtain ⟨b, zv, ey, _, hb, rb⟩ := own_at (i := j) p2.sim p2.at_ (by unfold ownL; rw [ek])
                    exact ⟨b, zv, ey, .inl (.inl (.inl hb)), rb⟩
                  · rename_i zs' ek
                    cases e4
                    have hk : pk ρ2 (.var j) = some (.list zs) := by
                      show (match lk ρ2 j with
                        | some (.own b) => if b.ok then some b.x else none
                        | some (.d x) => some x
                        | _ => none) = _
                      rw [ek]
                    obtain ⟨b, zv, ey, hq, rb⟩ := (pk_rep p2.sim p2.at_ hk).sq
                    exact ⟨b, zv, ey, .inl hq, rb⟩
                  · rename_i zs' ek
                    cases e4
                    have hk : pk ρ2 (.var j) = some (.tuple zs) := by
                      show (match lk ρ2 j with
                        | some (.own b) => if b.ok then some b.x else none
                        | some (.d x) => some x
                        | _ => none) = _
                      rw [ek]
                    rcases pk_rep p2.sim p2.at_ hk with hp | ⟨a, o, b, _, _, _, ed, _⟩
                    · exact (sqd hp).2 _ rfl
                    · cases b <;> cases ed
                  · cases e4
            obtain ⟨b, zv, ey, hb, rb⟩ := arg
            subst ey
            refine ⟨c, b, vs', zv, rfl, rfl, hl', hb, by rw [rs'.length, rb.length]; exact hz, ?_⟩
            have mm := Mid.mut (u' := .lst (vs' ++ zv)) (by' := .lst (xs ++ zs)) p2.sim (ownL_some e5) es' hl' (rs'.append rb)
            exact q _ _ ((p1.mid.trans (p2.mid.trans mm)).post .none trivial)
end
end Mp
set_option maxHeartbeats 1000000
/-! Mp40: for x in l, l a name's own list that stays its own. -/
namespace Mp
open PySem PySem.Spec PyProof.Rows L2
section
variable {K : PySem.W.Frag} {mg : Str → Option Value} {W : WX} {io : List Nat} {ρ ρ0 ρ1 ρ2 : Env} {σ σ1 σ2 : L2.St} {H H0 H1 H2 : Hp}
theorem SMid.less {i : Nat} (m : SMid K (i :: io) ρ σ H ρ1 σ1 H1) : SMid K io ρ σ H ρ1 σ1 H1 := ⟨m.sim, m.keep, m.grow, m.sub, fun j hj => m.fix j (List.mem_cons_of_mem _ hj)⟩
theorem GMid.less {i : Nat} (m : GMid K (i :: io) ρ σ H ρ1 σ1 H1) : GMid K io ρ σ H ρ1 σ1 H1 := ⟨m.s.less, m.own, m.dom⟩
theorem SOut.less {i : Nat} {E : Ends} {o : Ot (Fl × Env)} (q : SOut K mg W io ρ σ H E o) : SOut K mg W (i :: io) ρ σ H E o := by
  cases o with
  | stuck => exact q
  | exc x => exact q
  | ok f =>
    obtain ⟨f, ρ'⟩ := f
    cases f with
    | next => exact fun σ' H' m => q σ' H' m.less
    | cont => exact fun σ' H' m => q σ' H' m.less
    | brk => exact fun σ' H' m => q σ' H' m.less
    | ret r => exact fun v σ' H' m => q v σ' H' m.less
theorem GOut.less {i : Nat} {Q : L2.St → Hp → Prop} {o : Ot Env} (q : GOut K mg W io ρ σ H Q o) : GOut K mg W (i :: io) ρ σ H Q o := by
  cases o with
  | stuck => exact q
  | exc x => exact q
  | ok ρ' => exact fun σ' H' m => q σ' H' m.less
end
def lstAt (ρ : Env) (i : Nat) : Option (List D) := match lk ρ i with
  | some (.own (.lst xs)) => some xs
  | some (.d (.list xs)) => some xs
  | _ => none
def ownGo (i : Nat) (g : MT) (b : MS) : Nat → Nat → Env → Ot (Fl × Env)
  | 0, _, _ => .stuck
  | n + 1, k, ρ => match lstAt ρ i with
    | none => .stuck
    | some xs => match xs[k]? with
      | none => .ok (.next, ρ)
      | some x => (g x ρ).bind fun ρ1 => (b ρ1).bind fun p => match p.1 with
        | .next => ownGo i g b n (k + 1) p.2
        | .cont => ownGo i g b n (k + 1) p.2
        | .brk => .ok (.next, p.2)
        | .ret r => .ok (.ret r, p.2)
/-- an own list is walked as it stands at each turn, any other thing as mFor does -/
def mForO (i : Nat) (it : MI) (g : MT) (b : MS) : MS := fun ρ => match lk ρ i with
  | some (.own (.lst _)) => ownGo i g b 100000 0 ρ
  | _ => mFor it g b ρ
theorem lst_at {K : PySem.W.Frag} {ρ : Env} {σ : L2.St} {H : Hp} {i : Nat} {c : Addr} {xs : List D} (S : Sim K ρ σ H) (es : σ[i]? = some (some (.ref c))) (h : lstAt ρ i = some xs) : ∃ vs, SqL K H c vs ∧ RepDs K H vs xs := by
  unfold lstAt at h
  split at h
  · rename_i ys ek
    cases h
    obtain ⟨v, e1, r⟩ := S.rep i _ ek
    rw [es] at e1
    cases e1
    obtain ⟨a, u, ea, hl, rs⟩ := r
    cases ea
    obtain ⟨vs, eu, rs⟩ := rs.l
    subst eu
    exact ⟨vs, .inl (.inl hl), rs⟩
  · rename_i ys ek
    cases h
    obtain ⟨v, e1, r⟩ := S.rep i _ ek
    rw [es] at e1
    cases e1
    cases (show RepD K H (.ref c) (.list xs) from r) with
    | lst hq rs => exact ⟨_, hq.sq, rs⟩
  · cases h
section
variable {X : Cx} {W : WX} {io : List Nat} {tg iter c : Expr} {body : List Stmt} {pos : Pos} {mi : MI} {t : MT} {b : MS} {mc : M}
theorem ps_mforO {i : Nat} (hp : PassesOwn (model X.prog X.w) X.A X.env X.xe) (hc : X.calm = true) (hv : PE X iter (tOf X.K X.mg W (mV i))) (hi : PI X tg iter (tI X.K X.mg W mi)) (hg : PG X tg (tG X.K X.mg W (i :: io) t)) (hb : PSs X body (tS X.K X.mg W (i :: io) b))
    (hs : ∀ x, foldedSetIterable iter X.env x = pure x) : PS X (.For tg iter body [] pos) (tS X.K X.mg W io (mForO i mi t b)) := by
  have hg' : PG X tg (tG X.K X.mg W io t) := PG.weak hg fun v σ H Q ⟨ρ, x, S, r, q⟩ => ⟨ρ, x, S, r, q.less⟩
  have hb' : PSs X body (tS X.K X.mg W io b) := PSs.weak hb fun D σ H ⟨ρ, S, q⟩ => ⟨ρ, S, q.less⟩
  refine ⟨fun pins s σ H D I ⟨ρ, S, q⟩ => ?_⟩
  unfold mForO at q
  split at q
  case h_2 => exact (ps_mfor hp hc hi hg' hb' hs).run pins s σ H D I ⟨ρ, S, q⟩
  rename_i xs0 ek
  refine (ps_for hp hc (pi_list hv) hg hb hs).run pins s σ H D I ⟨ρ, S, ?_⟩
  have ev : mV i ρ = .ok (.var i, ρ) := by
    unfold mV
    rw [ek]
  rw [ev]
  intro v H1 p1
  obtain ⟨c, vs, ec, es, hl, rs⟩ := own_at (i := i) p1.sim p1.at_ (show ownL ρ i = some xs0 by unfold ownL; rw [ek])
  refine ⟨c, ec, ⟨vs, .inl (.inl hl)⟩, fun k m σ' H' => ∃ ρ', Sim X.K ρ' σ' H' ∧ σ'[i]? = some (some (.ref c)) ∧ SOut X.K X.mg W io ρ' σ' H' D (ownGo i t b m k ρ'), ⟨100000, ρ, p1.sim, es, SOut.after p1.mid.s q⟩, ?_⟩
  rintro k m σ' H' ⟨ρ', S', es', q'⟩
  have mem : i ∈ i :: io := List.mem_cons_self
  cases m with
  | zero => exact q'.elim
  | succ m =>
    dsimp only [ownGo] at q'
    cases e0 : lstAt ρ' i with
    | none => rw [e0] at q'; exact q'.elim
    | some xs =>
      rw [e0] at q'
      simp only at q'
      obtain ⟨zv, hq, rz⟩ := lst_at S' es' e0
      cases e1 : xs[k]? with
      | none =>
        rw [e1] at q'
        refine .inl ⟨⟨zv, hq, ?_⟩, q' σ' H' (SMid.refl S')⟩
        rw [rz.length]
        exact List.getElem?_eq_none_iff.mp e1
      | some x =>
        rw [e1] at q'
        simp only at q'
        obtain ⟨v', hv', rv⟩ := rz.get e1
        refine .inr ⟨⟨zv, v', hq, hv'⟩, fun σ2 H2 => ∃ ρ2, Sim X.K ρ2 σ2 H2 ∧ σ2[i]? = some (some (.ref c)) ∧ SOut X.K X.mg W io ρ2 σ2 H2 D (ownGo i t b m (k + 1) ρ2), fun σ2 H2 h => ⟨m, Nat.lt_succ_self _, h⟩, fun y H3 yx => ?_⟩
        obtain ⟨rfl, hy⟩ := yx
        have hy := hy zv hq
        rw [hv'] at hy
        cases hy
        refine ⟨ρ', x, S', rv, ?_⟩
        cases e2 : t x ρ' with
        | stuck => rw [e2] at q'; exact q'.elim
        | exc z => rw [e2] at q'; exact q'
        | ok ρ4 =>
          rw [e2] at q'
          simp only [Ot.bind] at q'
          intro σ4 H4 m4
          refine ⟨ρ4, m4.s.sim, ?_⟩
          cases e3 : b ρ4 with
          | stuck => rw [e3] at q'; exact q'.elim
          | exc z => rw [e3] at q'; exact SOut.after (o := .exc z) m4.s (SOut.less (o := .exc z) q')
          | ok p =>
            obtain ⟨f, ρ5⟩ := p
            rw [e3] at q'
            simp only at q'
            cases f with
            | next => exact fun σ5 H5 m5 => ⟨ρ5, m5.sim, (m5.fix i mem).trans ((m4.s.fix i mem).trans es'), SOut.after (m4.s.trans m5).less q'⟩
            | cont => exact fun σ5 H5 m5 => ⟨ρ5, m5.sim, (m5.fix i mem).trans ((m4.s.fix i mem).trans es'), SOut.after (m4.s.trans m5).less q'⟩
            | brk => exact fun σ5 H5 m5 => q' σ5 H5 (m4.s.trans m5).less
            | ret r => exact fun v σ5 H5 m5 a f => q' v σ5 H5 (m4.s.trans m5).less a (f.grow m4.s.grow)
end
end Mp
set_option maxHeartbeats 1000000
/-! Mp41: l != [] for any list. -/
namespace Mp
open PySem PySem.Spec PyProof.Rows L2
def gNeL : D → D → Option Res
  | .list (x :: xs), .list [] => some (.d (.bool true))
  | x, y => gNe x y
theorem og_neL {X : Cx} (rm : Rm X.A) : OpR X (compareOp .NotEq) (rD2 X.K gNeL) := by
  intro pins s σ H x y v u Q I rx ry ⟨dx, dy, res, px, py, eg, q⟩
  unfold gNeL at eg
  split at eg
  case h_2 => exact og_ne rm pins s σ H x y v u Q I rx ry ⟨dx, dy, res, px, py, eg, q⟩
  cases eg
  obtain ⟨a, vs, rfl, ha, ra⟩ := px.sq
  obtain ⟨b, ws, rfl, hb, rb⟩ := py.sq
  cases rx
  cases ry
  obtain ⟨its, r1, p1, _⟩ := I.list ha
  obtain ⟨its2, r2, p2, _⟩ := I.list hb
  have l1 := r1.length
  have l2 := r2.length
  have l3 := ra.length
  have l4 := rb.length
  have hu : X.A.units < cLine := by have := rm.un; omega
  exact SeqAt.RcNeAt.lists_lengths p1.isList p2.isList (by rw [List.size_toArray, List.size_toArray, bne_iff_ne]; simp only [List.length_cons, List.length_nil] at l3 l4; omega) hu X.prog X.w _ _ (fin_b I q)
end Mp
set_option maxHeartbeats 1000000
/-! Mp42: for x in zip(l, m), x a name: the pair may be kept, so that the zip's own tuple is out, or gone. -/
namespace Mp
open PySem PySem.Spec PyProof.Rows L2 RZ
/-- a zip as it stands between turns -/
def ZO (h : Heap) (z TI TO : Addr) (own : Value) (f : Bool) : Prop :=
  h.get? z = some { cls := .type "zip", dict := none, data := .fields #[own, .bool f, .bool false, .ref TI, .ref TO], slots := #[] }
section
variable {prog : Program} {w : World} {A : Around} {E : Value → Shared → Prop} {s : Shared} {z TI TO T i1 i2 l1 l2 : Addr} {k1 k2 : Nat} {xs ys : Array Value} {f : Bool}
theorem dead_load {a : Addr} {Q : Option Obj → Shared → Prop} (ha : s.heap.get? a = none) (q : Q none s) : wpAny (model prog w) A (loadIfAlive a) Q E s := by
  have q' : Q (s.heap.get? a) s := by rw [ha]; exact q
  exact fun _ _ _ => q'
theorem free_dead {Q : Bool → Shared → Prop} (zo : ZO s.heap z TI TO (rawInt T) f) (ht : s.heap.get? T = none) (q : Q true s) : wpAny (model prog w) A (Builtin.SmallTypes.ownedTupleIsFree (.ref z)) Q E s := by
  unfold Builtin.SmallTypes.ownedTupleIsFree
  refine wpAny_bind (wpAny_field zo rfl (x := rawInt T) rfl ?_)
  show wpAny _ _ (loadIfAlive ((T : Int).toNat) >>= fun _ => _) _ _ _
  rw [Int.toNat_natCast]
  refine wpAny_bind (dead_load ht ?_)
  simp only [Option.isNone_none, if_true]
  exact wpAny_pure q
/-- the zip's own tuple is gone: a turn -/
theorem dead_item {x y u v : Value} {Q : Value → Shared → Prop} (D : ZipApart z TI TO i1 i2 l1 l2) (zo : ZO s.heap z TI TO (rawInt T) f) (ht : s.heap.get? T = none)
    (pI : IsPair s.heap TI (.ref i1) (.ref i2)) (pO : IsPair s.heap TO u v) (j1 : s.heap.IsListIter i1 l1 k1) (j2 : s.heap.IsListIter i2 l2 k2) (m1 : s.heap.IsList l1 xs) (m2 : s.heap.IsList l2 ys)
    (ex : xs[k1]? = some x) (ey : ys[k2]? = some y)
    (q : ∀ g, ZO g z TI TO (rawInt s.heap.objs.size) false → IsPair g TO x y → g.IsListIter i1 l1 (k1 + 1) → g.IsListIter i2 l2 (k2 + 1) → IsPair g s.heap.objs.size x y → g.objs.size = s.heap.objs.size + 1 →
      (∀ c o, c ≠ z → c ≠ TO → c ≠ i1 → c ≠ i2 → s.heap.get? c = some o → g.get? c = some o) → Q (.ref s.heap.objs.size) { s with heap := g }) :
    wpAny (model prog w) A (Builtin.«zip.__next__» ⟨[.ref z], []⟩) (fun fin s' => ∃ v, fin = .done (.ret v) ∧ Q v s') E s := by
  show wpAny _ _ (field (.ref z) 2 >>= fun _ => _) _ _ _
  refine wpAny_bind (wpAny_field zo rfl (x := .bool false) rfl ?_)
  show wpAny _ _ (field (.ref z) 3 >>= fun _ => _) _ _ _
  refine wpAny_bind (wpAny_field zo rfl (x := .ref TI) rfl (wpAny_bind (wpAny_seqItems pI rfl ?_)))
  show wpAny _ _ (Builtin.SmallTypes.ownedTupleIsFree (.ref z) >>= fun _ => _) _ _ _
  refine wpAny_bind (free_dead zo ht ?_)
  simp only [if_true]
  refine wpAny_bind (wpAny_rule (wpAny_bind (wpAny_field zo rfl (x := .ref TO) rfl ?_)))
  refine wpAny_bind (wpAny_setField_rec zo (by simp) fun g1 z1 b1 => ?_)
  replace z1 : ZO g1 z TI TO .ellipsis f := z1
  refine wpAny_bind ?_
  simp only [List.zipIdx_nil, List.zipIdx_cons, List.forIn_nil, List.forIn_cons]
  refine wpAny_bind (wpAny_bind (wpAny_onRaise ?_))
  show wpAny _ _ (Builtin.SmallTypes.nextOf (.ref i1) >>= fun _ => _) _ _ _
  refine wpAny_bind (wpAny_nextOf_list_item (j1.extBut b1.extBut D.i1z) (m1.extBut b1.extBut D.l1z) ex fun g2 n1 b2 => wpAny_pure ?_)
  have o2 : IsPair g2 TO u v := b2.extBut _ _ D.TOi1 (b1.extBut _ _ D.TOz pO)
  refine wpAny_bind (wpAny_seqItems o2 rfl (wpAny_bind (wpAny_updateSeq_pair o2 fun g3 o3 b3 => ?_)))
  replace o3 : IsPair g3 TO x v := o3
  refine wpAny_bind (wpAny_letGo (wpAny_pure (wpAny_bind (wpAny_bind (wpAny_onRaise ?_)))))
  show wpAny _ _ (Builtin.SmallTypes.nextOf (.ref i2) >>= fun _ => _) _ _ _
  refine wpAny_bind (wpAny_nextOf_list_item (((j2.extBut b1.extBut D.i2z).extBut b2.extBut D.i12.symm).extBut b3.extBut D.TOi2.symm)
    (((m2.extBut b1.extBut D.l2z).extBut b2.extBut D.l2i1).extBut b3.extBut D.l2TO) ey fun g4 n2 b4 => wpAny_pure ?_)
  have o4 : IsPair g4 TO x v := b4.extBut _ _ D.TOi2 o3
  refine wpAny_bind (wpAny_seqItems o4 rfl (wpAny_bind (wpAny_updateSeq_pair o4 fun g5 o5 b5 => ?_)))
  replace o5 : IsPair g5 TO x y := o5
  refine wpAny_bind (wpAny_letGo (wpAny_pure (wpAny_pure (wpAny_bind (wpAny_seqItems o5 rfl (wpAny_bind (wpAny_newTuple ?_)))))))
  have sz : g5.objs.size = s.heap.objs.size := by rw [b5.1, b4.1, b3.1, b2.1, b1.1]
  have z5 : ZO g5 z TI TO .ellipsis f := b5.extBut _ _ D.TOz.symm (b4.extBut _ _ D.i2z.symm (b3.extBut _ _ D.TOz.symm (b2.extBut _ _ D.i1z.symm z1)))
  have kp : ∀ c o, c ≠ z → c ≠ TO → c ≠ i1 → c ≠ i2 → s.heap.get? c = some o → g5.get? c = some o := fun c o c1 c2 c3 c4 e => b5.extBut _ _ c2 (b4.extBut _ _ c4 (b3.extBut _ _ c2 (b2.extBut _ _ c3 (b1.extBut _ _ c1 e))))
  have n5 : g5.IsListIter i1 l1 (k1 + 1) := ((n1.extBut b3.extBut D.TOi1.symm).extBut b4.extBut D.i12).extBut b5.extBut D.TOi1.symm
  have n6 : g5.IsListIter i2 l2 (k2 + 1) := n2.extBut b5.extBut D.TOi2.symm
  have zl : z < g5.objs.size := Heap.lt_size z5
  show wpAny _ _ (Builtin.SmallTypes.ownedTupleHandOut (.ref z) (.ref g5.objs.size) >>= fun _ => _) _ _ _
  refine wpAny_bind ?_
  unfold Builtin.SmallTypes.ownedTupleHandOut
  have z6 : ZO (g5.push { cls := .type "tuple", data := .seq #[x, y] }) z TI TO .ellipsis f := Heap.get?_push_of_some _ z5
  refine wpAny_bind (wpAny_setField_rec z6 (by simp) fun g7 z7 b7 => ?_)
  replace z7 : ZO g7 z TI TO (rawInt g5.objs.size) f := z7
  refine wpAny_setField_rec z7 (by simp) fun g8 z8 b8 => ?_
  replace z8 : ZO g8 z TI TO (rawInt g5.objs.size) false := z8
  have up : ∀ c o, c ≠ z → g5.get? c = some o → g8.get? c = some o := fun c o c1 e => b8.extBut _ _ c1 (b7.extBut _ _ c1 (Heap.get?_push_of_some _ e))
  have p8 : IsPair g8 g5.objs.size x y := b8.extBut _ _ (Nat.ne_of_gt zl) (b7.extBut _ _ (Nat.ne_of_gt zl) (Heap.get?_push_size _ rfl))
  have s8 : g8.objs.size = g5.objs.size + 1 := by rw [b8.1, b7.1, Heap.size_push]
  rw [sz] at z8 p8 s8
  refine wpAny_pure ⟨_, rfl, ?_⟩
  show Q (.ref g5.objs.size) _
  rw [sz]
  exact q g8 z8 (up _ _ D.TOz o5) (n5.at fun o e => up _ o D.i1z e) (n6.at fun o e => up _ o D.i2z e) p8 s8 fun c o c1 c2 c3 c4 e => up c o c1 (kp c o c1 c2 c3 c4 e)
/-- the zip's own tuple is gone: the end -/
theorem dead_end {u v : Value} {Q : Fin → Shared → Prop} (hh : A.handled = none) (D : ZipApart z TI TO i1 i2 l1 l2) (zo : ZO s.heap z TI TO (rawInt T) f) (ht : s.heap.get? T = none)
    (pI : IsPair s.heap TI (.ref i1) (.ref i2)) (pO : IsPair s.heap TO u v) (j1 : s.heap.IsListIter i1 l1 k1) (j2 : s.heap.IsListIter i2 l2 k2) (m1 : s.heap.IsList l1 xs) (m2 : s.heap.IsList l2 ys)
    (en : xs[k1]? = none ∨ ys[k2]? = none)
    (q : ∀ g e, (∀ c o, c ≠ z → c ≠ TO → c ≠ i1 → c ≠ i2 → s.heap.get? c = some o → g.get? c = some o) → (∃ o, g.get? e = some o ∧ o.cls = .type "StopIteration") → E (.ref e) { s with heap := g }) :
    wpAny (model prog w) A (Builtin.«zip.__next__» ⟨[.ref z], []⟩) Q E s := by
  show wpAny _ _ (field (.ref z) 2 >>= fun _ => _) _ _ _
  refine wpAny_bind (wpAny_field zo rfl (x := .bool false) rfl ?_)
  show wpAny _ _ (field (.ref z) 3 >>= fun _ => _) _ _ _
  refine wpAny_bind (wpAny_field zo rfl (x := .ref TI) rfl (wpAny_bind (wpAny_seqItems pI rfl ?_)))
  show wpAny _ _ (Builtin.SmallTypes.ownedTupleIsFree (.ref z) >>= fun _ => _) _ _ _
  refine wpAny_bind (free_dead zo ht ?_)
  simp only [if_true]
  refine wpAny_bind (wpAny_rule (wpAny_bind (wpAny_field zo rfl (x := .ref TO) rfl ?_)))
  refine wpAny_bind (wpAny_setField_rec zo (by simp) fun g1 z1 b1 => ?_)
  replace z1 : ZO g1 z TI TO .ellipsis f := z1
  refine wpAny_bind ?_
  simp only [List.zipIdx_nil, List.zipIdx_cons, List.forIn_nil, List.forIn_cons]
  refine wpAny_bind (wpAny_bind (wpAny_onRaise ?_))
  show wpAny _ _ (Builtin.SmallTypes.nextOf (.ref i1) >>= fun _ => _) _ _ _
  cases ex : xs[k1]? with
  | none =>
    refine wpAny_bind (wpAny_nextOf_list_end hh (j1.extBut b1.extBut D.i1z) (m1.extBut b1.extBut D.l1z) ex fun g2 e b2 he => ?_)
    obtain ⟨oe, h1, h2⟩ := he
    have z2 : ZO g2 z TI TO .ellipsis f := b2 _ _ D.i1z.symm z1
    have ne : e ≠ z := fun t => by subst t; have z3 := z2; unfold ZO at z3; rw [z3] at h1; cases h1; simp at h2
    refine wpAny_setField_rec z2 (by simp) fun g3 _ b3 => q g3 e (fun c o c1 _ c3 _ t => b3.extBut _ _ c1 (b2 _ _ c3 (b1.extBut _ _ c1 t))) ⟨oe, b3.extBut _ _ ne h1, h2⟩
  | some x =>
    have ey : ys[k2]? = none := by rcases en with h | h; rw [ex] at h; cases h; exact h
    refine wpAny_bind (wpAny_nextOf_list_item (j1.extBut b1.extBut D.i1z) (m1.extBut b1.extBut D.l1z) ex fun g2 n1 b2 => wpAny_pure ?_)
    have o2 : IsPair g2 TO u v := b2.extBut _ _ D.TOi1 (b1.extBut _ _ D.TOz pO)
    refine wpAny_bind (wpAny_seqItems o2 rfl (wpAny_bind (wpAny_updateSeq_pair o2 fun g3 o3 b3 => ?_)))
    refine wpAny_bind (wpAny_letGo (wpAny_pure (wpAny_bind (wpAny_bind (wpAny_onRaise ?_)))))
    show wpAny _ _ (Builtin.SmallTypes.nextOf (.ref i2) >>= fun _ => _) _ _ _
    refine wpAny_bind (wpAny_nextOf_list_end hh (((j2.extBut b1.extBut D.i2z).extBut b2.extBut D.i12.symm).extBut b3.extBut D.TOi2.symm)
      (((m2.extBut b1.extBut D.l2z).extBut b2.extBut D.l2i1).extBut b3.extBut D.l2TO) ey fun g4 e b4 he => ?_)
    obtain ⟨oe, h1, h2⟩ := he
    have z4 : ZO g4 z TI TO .ellipsis f := b4 _ _ D.i2z.symm (b3.extBut _ _ D.TOz.symm (b2.extBut _ _ D.i1z.symm z1))
    have ne : e ≠ z := fun t => by subst t; have z5 := z4; unfold ZO at z5; rw [z5] at h1; cases h1; simp at h2
    refine wpAny_setField_rec z4 (by simp) fun g5 _ b5 => q g5 e (fun c o c1 c2 c3 c4 t => b5.extBut _ _ c1 (b4 _ _ c4 (b3.extBut _ _ c2 (b2.extBut _ _ c3 (b1.extBut _ _ c1 t))))) ⟨oe, b5.extBut _ _ ne h1, h2⟩
/-- a turn, however the zip's own tuple stands -/
theorem zo_item {own : Value} {x y u v : Value} {Q : Option Value → Shared → Prop} (D : ZipApart z TI TO i1 i2 l1 l2) (zo : ZO s.heap z TI TO own f) (hown : (own = .none ∧ f = false) ∨ ∃ T : Addr, own = rawInt T)
    (pI : IsPair s.heap TI (.ref i1) (.ref i2)) (pO : IsPair s.heap TO u v) (j1 : s.heap.IsListIter i1 l1 k1) (j2 : s.heap.IsListIter i2 l2 k2) (m1 : s.heap.IsList l1 xs) (m2 : s.heap.IsList l2 ys)
    (ex : xs[k1]? = some x) (ey : ys[k2]? = some y)
    (q : ∀ g (T' : Addr) f' u' v', ZO g z TI TO (rawInt T') f' → IsPair g TO u' v' → g.IsListIter i1 l1 (k1 + 1) → g.IsListIter i2 l2 (k2 + 1) → IsPair g s.heap.objs.size x y → g.objs.size = s.heap.objs.size + 1 →
      (∀ c o, c ≠ z → c ≠ TO → c ≠ i1 → c ≠ i2 → s.heap.get? c = some o → g.get? c = some o) → Q (some (.ref s.heap.objs.size)) { s with heap := g }) :
    wpAny (model prog w) A (pyNext (.ref z)) Q E s := by
  rcases hown with ⟨rfl, rfl⟩ | ⟨T, rfl⟩
  · exact wpAny_pyNext_zip_item D zo pI pO j1 j2 m1 m2 ex ey fun g a1 a2 a3 a4 a5 a6 a7 => q g _ _ _ _ a1 a2 a3 a4 a5 a6 a7
  · cases ht : s.heap.get? T with
    | some o =>
      refine wpAny_pyNext_zip_item_held D zo ht pI j1 j2 m1 m2 ex ey fun g a1 a3 a4 a5 a6 a7 => ?_
      exact q g _ _ _ _ a1 (a7 _ _ D.TOz D.TOi1 D.TOi2 pO) a3 a4 a5 a6 fun c o c1 _ c3 c4 e => a7 c o c1 c3 c4 e
    | none =>
      have ty : s.TypeIs (.ref z) "zip" := ⟨_, zo, rfl⟩
      unfold pyNext
      exact wpAny_bind (wpAny_attempt (wpAny_callSpecial?_slot (name := Str.ofString "__next__") ty F.slot_zip_next (wpAny_call_entry F.slot_zip_next ty F.entry_zip_next
        (dead_item D zo ht pI pO j1 j2 m1 m2 ex ey fun g a1 a2 a3 a4 a5 a6 a7 => wpAny_pure (q g _ _ _ _ a1 a2 a3 a4 a5 a6 a7)) (F.args_zip_next_1 _))))
/-- the end, however the zip's own tuple stands -/
theorem zo_end {own : Value} {u v : Value} {Q : Option Value → Shared → Prop} (hh : A.handled = none) (D : ZipApart z TI TO i1 i2 l1 l2) (zo : ZO s.heap z TI TO own f) (hown : (own = .none ∧ f = false) ∨ ∃ T : Addr, own = rawInt T)
    (pI : IsPair s.heap TI (.ref i1) (.ref i2)) (pO : IsPair s.heap TO u v) (j1 : s.heap.IsListIter i1 l1 k1) (j2 : s.heap.IsListIter i2 l2 k2) (m1 : s.heap.IsList l1 xs) (m2 : s.heap.IsList l2 ys)
    (en : xs[k1]? = none ∨ ys[k2]? = none)
    (q : ∀ g, (∀ c o, c ≠ z → c ≠ TO → c ≠ i1 → c ≠ i2 → s.heap.get? c = some o → g.get? c = some o) → Q none { s with heap := g }) : wpAny (model prog w) A (pyNext (.ref z)) Q E s := by
  rcases hown with ⟨rfl, rfl⟩ | ⟨T, rfl⟩
  · exact wpAny_pyNext_zip_end hh D zo pI pO j1 j2 m1 m2 en q
  · cases ht : s.heap.get? T with
    | some o => exact wpAny_pyNext_zip_end_held hh D zo ht pI j1 j2 m1 m2 en fun g k => q g fun c o c1 _ c3 c4 e => k c o c1 c3 c4 e
    | none =>
      have ty : s.TypeIs (.ref z) "zip" := ⟨_, zo, rfl⟩
      unfold pyNext
      refine wpAny_bind (wpAny_attempt (wpAny_callSpecial?_slot (name := Str.ofString "__next__") ty F.slot_zip_next (wpAny_call_entry F.slot_zip_next ty F.entry_zip_next
        (dead_end hh D zo ht pI pO j1 j2 m1 m2 en fun g e hk he => ?_) (F.args_zip_next_1 _))))
      obtain ⟨o, h1, h2⟩ := he
      exact wpAny_bind (wpAny_isInstance (T := "StopIteration") (b := true) ⟨o, h1, h2⟩ isSubtype_stop (wpAny_pure (q _ hk)))
end
end Mp
set_option maxHeartbeats 1000000
/-! Mp43: the walk of zip(l, m) by a name. -/
namespace Mp
open PySem PySem.Spec PyProof.Rows L2 RZ
theorem zo_iter {prog : Program} {w : World} {A : Around} {E : Value → Shared → Prop} {s : Shared} {z TI TO : Addr} {own : Value} {f : Bool} {Q : Value → Shared → Prop} (zo : ZO s.heap z TI TO own f) (q : Q (.ref z) s) : wpAny (model prog w) A (pyIter (.ref z)) Q E s := by
  have ty : s.TypeIs (.ref z) "zip" := ⟨_, zo, rfl⟩
  refine wpAny_pyIter_slot ty F.slot_zip_iter (wpAny_call_entry F.slot_zip_iter ty F.entry_zip_iter ?_ (F.args_zip_iter_1 _))
  show wpAny _ _ (ret (.ref z)) _ _ s
  exact wpAny_pure ⟨_, rfl, "zip", _, ty, F.slot_zip_next.lookup, q⟩
/-- how the zip of two lists stands at a turn -/
def ZS (z TI TO i1 i2 a b : Addr) (i : Nat) (h : Heap) : Prop := (∃ own f, ZO h z TI TO own f ∧ ((own = .none ∧ f = false) ∨ ∃ T : Addr, own = rawInt T)) ∧ IsPair h TI (.ref i1) (.ref i2) ∧ (∃ x y, IsPair h TO x y) ∧ h.IsListIter i1 a i ∧ h.IsListIter i2 b i
theorem five {c z TI TO i1 i2 : Addr} (h : c ∈ [z, TI, TO, i1, i2]) : c = z ∨ c = TI ∨ c = TO ∨ c = i1 ∨ c = i2 := by simpa using h
theorem turn_zipN {P : Program} {w : World} {K : PySem.W.Frag} {nm : Str} {tpos : Pos} {a b z TI TO i1 i2 : Addr} (D : ZipApart z TI TO i1 i2 a b) :
    Turn P w K (.Name nm tpos) (Itz K a b) [z, TI, TO, i1, i2] z (ZS z TI TO i1 i2 a b) where
  mem := List.mem_cons_self
  obj := fun i h ⟨⟨own, f, zo, _⟩, pI, ⟨x, y, pO⟩, ⟨o1, e1, _, d1⟩, ⟨o2, e2, _, d2⟩⟩ c hc => by
    rcases five hc with rfl | rfl | rfl | rfl | rfl
    · exact ⟨_, zo, fun v t => nomatch t⟩
    · exact ⟨_, pI, fun v t => nomatch t⟩
    · exact ⟨_, pO, fun v t => nomatch t⟩
    · exact ⟨o1, e1, fun v t => by rw [d1] at t; cases t⟩
    · exact ⟨o2, e2, fun v t => by rw [d2] at t; cases t⟩
  keep := fun i h h' ⟨⟨own, f, zo, ho⟩, pI, ⟨x, y, pO⟩, j1, j2⟩ k =>
    ⟨⟨own, f, k z (by simp) _ zo, ho⟩, k TI (by simp) _ pI, ⟨x, y, k TO (by simp) _ pO⟩, j1.at fun o t => k i1 (by simp) o t, j2.at fun o t => k i2 (by simp) o t⟩
  item := by
    intro X hP hw hK hc i pins s σ H E I hf ⟨⟨own, f, zo, ho⟩, pI, ⟨u0, v0, pO⟩, j1, j2⟩ ⟨xs, ys, x, y, hqx, hqy, hx, hy⟩
    subst hP hw hK
    obtain ⟨its, rv, p, _⟩ := I.list hqx
    obtain ⟨its2, rv2, p2, _⟩ := I.list hqy
    obtain ⟨u, hu, ru⟩ := rv.get hx
    obtain ⟨v, hv, rv'⟩ := rv2.get hy
    have zl : z < s.heap.objs.size := Heap.lt_size zo
    refine zo_item D zo ho pI pO j1 j2 p.isList p2.isList (x := u) (y := v) (by simpa using hu) (by simpa using hv) fun g T' f' u' v' a1 a2 a3 a4 a5 a6 a7 => ?_
    refine ⟨_, rfl, wpAny_pure ?_⟩
    have new : ObjOk X.prog X.w (upd H s.heap.objs.size (.tup [x, y])) g s.heap.objs.size (.tup [x, y]) := ⟨by show 2 ≤ sizeLine; decide, [u, v], .cons ru (.cons rv' .nil), ⟨_, a5, rfl, _, rfl⟩⟩
    have kp : ∀ c o, c ∉ [z, TI, TO, i1, i2] → s.heap.get? c = some o → g.get? c = some o := fun c o hb t => a7 c o (fun t' => hb (by simp [t'])) (fun t' => hb (by simp [t'])) (fun t' => hb (by simp [t'])) (fun t' => hb (by simp [t'])) t
    have I1 : Inv X pins σ (upd H s.heap.objs.size (.tup [x, y])) { s with heap := g } := I.turnedNew (t' := s.toks) (ch := [z, TI, TO, i1, i2]) kp hf (Nat.le_refl _) new
    refine ⟨.ref s.heap.objs.size, _, I1, rfl, ⟨_, x, y, rfl, I.hok.fresh (Nat.le_refl _), rfl, fun l hl => by rw [I.list_inj hl hqx]; exact hx, fun l hl => by rw [I.list_inj hl hqy]; exact hy⟩,
      ⟨⟨_, f', a1, .inr ⟨T', rfl⟩⟩, a7 _ _ D.TIz D.TITO D.TIi1 D.TIi2 pI, ⟨u', v', a2⟩, a3, a4⟩, fun c hcm => ?_⟩
    have lt : c < s.heap.objs.size := by
      obtain ⟨_, e1, _⟩ := j1
      obtain ⟨_, e2, _⟩ := j2
      rcases five hcm with rfl | rfl | rfl | rfl | rfl
      · exact zl
      · exact Heap.lt_size pI
      · exact Heap.lt_size pO
      · exact Heap.lt_size e1
      · exact Heap.lt_size e2
    rw [upd_ne (Nat.ne_of_lt lt)]
    exact (hf c hcm).1
  done := by
    intro X hP hw hK hc i pins s σ H E I hf ⟨⟨own, f, zo, ho⟩, pI, ⟨u0, v0, pO⟩, j1, j2⟩ ⟨xs, ys, hqx, hqy, en⟩
    subst hP hw hK
    obtain ⟨its, rv, p, _⟩ := I.list hqx
    obtain ⟨its2, rv2, p2, _⟩ := I.list hqy
    have n1 := rv.length
    have n2 := rv2.length
    refine zo_end (I.ok.hd hc) D zo ho pI pO j1 j2 p.isList p2.isList (en.imp (fun t => by simp; omega) (fun t => by simp; omega)) fun g k => ⟨rfl, I.turnedL (t' := s.toks) (ch := [z, TI, TO, i1, i2]) (fun c o hb t => ?_) hf⟩
    exact k c o (fun t' => hb (by simp [t'])) (fun t' => hb (by simp [t'])) (fun t' => hb (by simp [t'])) (fun t' => hb (by simp [t'])) t
  self := fun A i s Q E ⟨⟨_, _, zo, _⟩, _⟩ q => zo_iter zo q
def iZipN (K : PySem.W.Frag) (ta : TA) : TI := fun σ H R => ta σ H fun vs H1 => ∃ a b xs ys, vs = [.ref a, .ref b] ∧ SqL K H1 a xs ∧ SqL K H1 b ys ∧ R (Itz K a b) H1
theorem pi_zipN {X : Cx} {e e2 : Expr} {ta : TA} {p pos tpos : Pos} {nm : Str} (hg : Gl X "zip") (hm : X.mg "zip" = none) (ha : PA X [e, e2] ta)
    (hs : starEach [e, e2] X.env = (false, eval e X.env) :: starEach [e2] X.env) (hpl : (backTo pos (starEach [e2] X.env)).any (·.1) = false) :
    PI X (.Name nm tpos) (.Call (.Name "zip" p) [e, e2] [] pos) (iZipN X.K ta) := by
  refine ⟨fun pins s σ H R I h => Call_ (ld_blt I hg hm PyProof.Rows.boot_zip (PyProof.Rows.callWith_type1 (thn (ha.run pos pins s σ H _ I h) fun us s1 ⟨vs, H1, I1, r1, a, b, xs, ys, ex, hqx, hqy, q⟩ => ?_) hs hpl))⟩
  subst ex
  cases r1 with
  | cons r rr => cases rr with
    | cons r' rr =>
      cases rr
      cases r
      cases r'
      obtain ⟨its, rv, p1, _⟩ := I1.list hqx
      obtain ⟨its2, rv2, p2, _⟩ := I1.list hqy
      refine call_zip_2 p1.isList p2.isList fun g zz pI pO j1 j2 sz kp => zo_iter (own := .none) (f := false) zz ?_
      have I2 : Inv X pins σ H1 { s1 with heap := g } := I1.kept (t' := s1.toks) kp
      refine ⟨s1.heap.objs.size + 4, [s1.heap.objs.size + 4, s1.heap.objs.size + 2, s1.heap.objs.size + 3, s1.heap.objs.size, s1.heap.objs.size + 1], _, _, H1, rfl, I2, turn_zipN (PySem.W.ktu_apart s1.heap.objs.size a b p1.lt p2.lt), ⟨⟨_, _, zz, .inl ⟨rfl, rfl⟩⟩, pI, ⟨_, _, pO⟩, j1, j2⟩, fun c hcm => ?_, q⟩
      have le : s1.heap.objs.size ≤ c := by
        rcases five hcm with rfl | rfl | rfl | rfl | rfl
        · exact Nat.le_add_right _ _
        · exact Nat.le_add_right _ _
        · exact Nat.le_add_right _ _
        · exact Nat.le_refl _
        · exact Nat.le_add_right _ _
      exact I1.fpOk le (I1.hok.fresh le)
/-- for x in zip(l, m) -/
def zipLL : D → D → Option (List D)
  | .list xs, .list ys => some (pairsD xs ys)
  | _, _ => none
def mZipN (a b : M) : MI := fun ρ => (mD a ρ).bind fun p => (mD b p.2).bind fun q => match p.1, q.1 with
  | .d x, .d y => match zipLL x y with
    | some zs => .ok (zs, q.2)
    | none => .stuck
  | _, _ => .stuck
section
variable {X : Cx} {W : WX} {e e2 : Expr} {pos p tpos : Pos} {ma mb : M} {nm : Str}
theorem pi_mZipN (hg : Gl X "zip") (hm : X.mg "zip" = none) (ha : PE X e (tOf X.K X.mg W ma)) (hb : PE X e2 (tOf X.K X.mg W mb))
    (hs : starEach [e, e2] X.env = (false, eval e X.env) :: starEach [e2] X.env) (hs2 : starEach [e2] X.env = (false, eval e2 X.env) :: starEach [] X.env) (hpl : (backTo pos (starEach [e2] X.env)).any (·.1) = false) :
    PI X (.Name nm tpos) (.Call (.Name "zip" p) [e, e2] [] pos) (tI X.K X.mg W (mZipN ma mb)) := by
  refine PI.weak (pi_zipN hg hm (pa_cons (pe_mD ha) (pa_cons (pe_mD hb) pa_nil hs2) hs) hs hpl) fun σ H R ⟨ρ, S, q⟩ => ⟨ρ, S, ?_⟩
  unfold mZipN at q
  cases e1 : mD ma ρ with
  | stuck => rw [e1] at q; exact q.elim
  | exc x => rw [e1] at q; exact q
  | ok p =>
    obtain ⟨r1, ρ1⟩ := p
    rw [e1] at q
    simp only [Ot.bind] at q
    intro x H1 p1
    refine ⟨ρ1, p1.sim, ?_⟩
    cases e2 : mD mb ρ1 with
    | stuck => rw [e2] at q; exact q.elim
    | exc x =>
      rw [e2] at q
      exact fun cls d H' ex k => q cls d H' ex (p1.keep.trans k fun c z => .inl (p1.sub c z))
    | ok p =>
      obtain ⟨r2, ρ2⟩ := p
      rw [e2] at q
      simp only at q
      intro y H2 p2
      have a1 := RsAt.mid p1.sim p1.at_ p2.mid
      cases r1 <;> try (exact q.elim)
      cases r2 <;> (try (exact q.elim))
      rename_i dx dy
      cases dx <;> (try (exact q.elim)) <;> cases dy <;> (try (exact q.elim))
      rename_i xs ys
      cases (show RepD X.K H2 x (.list xs) from a1) with
      | lst hq rs =>
        cases (show RepD X.K H2 y (.list ys) from p2.at_) with
        | lst hq' rs' => exact ⟨_, _, _, _, rfl, hq.sq, hq'.sq, q _ H2 (p1.mid.trans p2.mid) (yl_zip (fun H2 pr => (pr.fzL hq).sq) (fun H2 pr => (pr.fzL hq').sq) rs rs')⟩
end
end Mp
/-! Pm1: plain mathematics of orders as lists of pairs. -/
namespace Pm
abbrev PS := List (Int × Int)
def InR (n : Int) (ps : PS) : Prop := ∀ q ∈ ps, 0 ≤ q.1 ∧ q.1 < n ∧ 0 ≤ q.2 ∧ q.2 < n
def Irr (ps : PS) : Prop := ∀ x, (x, x) ∉ ps
def Tr (ps : PS) : Prop := ∀ a b c, (a, b) ∈ ps → (b, c) ∈ ps → (a, c) ∈ ps
/-- reached from b by one pair or more -/
inductive Rch (ps : PS) (b : Int) : Int → Prop
  | one {y} : (b, y) ∈ ps → Rch ps b y
  | more {x y} : Rch ps b x → (x, y) ∈ ps → Rch ps b y
theorem Rch.inr {n : Int} {ps : PS} {b y : Int} (h : InR n ps) (r : Rch ps b y) : 0 ≤ y ∧ y < n := by
  cases r with
  | one m => have := h _ m; exact ⟨this.2.2.1, this.2.2.2⟩
  | more _ m => have := h _ m; exact ⟨this.2.2.1, this.2.2.2⟩
theorem Rch.from {ps : PS} {b y : Int} (r : Rch ps b y) : ∃ z, (b, z) ∈ ps := by
  induction r with
  | one m => exact ⟨_, m⟩
  | more _ _ ih => exact ih
theorem rch_tr {ps : PS} (h : Tr ps) {b y : Int} : Rch ps b y ↔ (b, y) ∈ ps := by
  constructor
  · intro r
    induction r with
    | one m => exact m
    | more _ m ih => exact h _ _ _ ih m
  · exact .one
/-- with a pair more -/
def Cl (ps : PS) (a b x y : Int) : Prop := (x, y) ∈ ps ∨ ((x = a ∨ (x, a) ∈ ps) ∧ (y = b ∨ (b, y) ∈ ps))
theorem rch_one {ps : PS} (t : Tr ps) {a b x y : Int} (hn : (b, a) ∉ ps) (hab : a ≠ b) : Rch (ps ++ [(a, b)]) x y ↔ Cl ps a b x y := by
  constructor
  · intro r
    induction r with
    | @one y m =>
      rcases List.mem_append.mp m with m | m
      · exact .inl m
      · simp at m
        obtain ⟨rfl, rfl⟩ := m
        exact .inr ⟨.inl rfl, .inl rfl⟩
    | @more u v _ m0 ih =>
      rcases List.mem_append.mp m0 with m | m
      · rcases ih with ih | ⟨h1, h2⟩
        · exact .inl (t _ _ _ ih m)
        · refine .inr ⟨h1, .inr ?_⟩
          rcases h2 with h2 | h2
          · rw [← h2]; exact m
          · exact t _ _ _ h2 m
      · simp at m
        obtain ⟨rfl, rfl⟩ := m
        rcases ih with ih | ⟨h1, h2⟩
        · exact .inr ⟨.inr ih, .inl rfl⟩
        · rcases h2 with rfl | h2
          · exact absurd rfl hab
          · exact absurd h2 hn
  · rintro (h | ⟨h1, h2⟩)
    · exact .one (List.mem_append.mpr (.inl h))
    · have e : (a, b) ∈ ps ++ [(a, b)] := List.mem_append.mpr (.inr (by simp))
      have r1 : Rch (ps ++ [(a, b)]) x b := by
        rcases h1 with rfl | h1
        · exact .one e
        · exact .more (.one (List.mem_append.mpr (.inl h1))) e
      rcases h2 with rfl | h2
      · exact r1
      · exact .more r1 (List.mem_append.mpr (.inl h2))
theorem asy {ps : PS} (i : Irr ps) (t : Tr ps) {a b : Int} (h : (a, b) ∈ ps) : (b, a) ∉ ps := fun h2 => i a (t _ _ _ h h2)
/-- closed by a pair more: again irreflexive, transitive -/
theorem cl_irr {ps : PS} (i : Irr ps) (t : Tr ps) {a b : Int} (hn : (b, a) ∉ ps) (hab : a ≠ b) (x : Int) : ¬ Cl ps a b x x := by
  rintro (h | ⟨h1, h2⟩)
  · exact i x h
  · rcases h1 with rfl | h1 <;> rcases h2 with h2 | h2
    · exact hab h2
    · exact hn h2
    · subst h2; exact hn h1
    · exact hn (t _ _ _ h2 h1)
theorem cl_tr {ps : PS} (t : Tr ps) {a b : Int} (hn : (b, a) ∉ ps) (hab : a ≠ b) {x y z : Int} (h1 : Cl ps a b x y) (h2 : Cl ps a b y z) : Cl ps a b x z := by
  rcases h1 with h1 | ⟨h3, h4⟩
  · rcases h2 with h2 | ⟨h5, h6⟩
    · exact .inl (t _ _ _ h1 h2)
    · refine .inr ⟨.inr ?_, h6⟩
      rcases h5 with rfl | h5
      · exact h1
      · exact t _ _ _ h1 h5
  · rcases h2 with h2 | ⟨h5, h6⟩
    · refine .inr ⟨h3, .inr ?_⟩
      rcases h4 with rfl | h4
      · exact h2
      · exact t _ _ _ h4 h2
    · exact .inr ⟨h3, h6⟩
theorem cl_told {ps : PS} (t : Tr ps) {a b x y : Int} (h : (a, b) ∈ ps) : Cl ps a b x y ↔ (x, y) ∈ ps := by
  constructor
  · rintro (h1 | ⟨h1, h2⟩)
    · exact h1
    · have e1 : (x, b) ∈ ps := by
        rcases h1 with rfl | h1
        · exact h
        · exact t _ _ _ h1 h
      rcases h2 with rfl | h2
      · exact e1
      · exact t _ _ _ e1 h2
  · exact .inl
/-- what both ways of telling two apart have in common -/
theorem cl_both {ps : PS} (i : Irr ps) (t : Tr ps) {a b x y : Int} (h1 : (a, b) ∉ ps) (h2 : (b, a) ∉ ps) (hab : a ≠ b) : Cl ps a b x y ∧ Cl ps b a x y ↔ (x, y) ∈ ps := by
  constructor
  · rintro ⟨h | ⟨h3, h4⟩, h | ⟨h5, h6⟩⟩
    · exact h
    · exact h
    · exact h
    · -- x ≤ a, b ≤ y, x ≤ b, a ≤ y
      rcases h3 with rfl | h3
      · rcases h6 with rfl | h6
        · rcases h5 with h5 | h5
          · exact absurd h5 hab
          · exact absurd h5 h1
        · exact h6
      · rcases h6 with rfl | h6
        · exact h3
        · exact t _ _ _ h3 h6
  · exact fun h => ⟨.inl h, .inl h⟩
end Pm
set_option maxHeartbeats 4000000
namespace My
open PySem PySem.Spec PyProof.Rows L2 Mp RZ
theorem gGt_int (a b : Int) : gGt (.int a) (.int b) = some (.d (.bool (decide (b < a)))) := by
  unfold gGt
  rw [W.dataLt_int]
  simp [okCmp, shal, W.alike, PyData.depth]
theorem gLt_int (a b : Int) : gLt (.int a) (.int b) = some (.d (.bool (decide (a < b)))) := by
  unfold gLt
  rw [W.dataLt_int]
  simp [okCmp, shal, W.alike, PyData.depth]
theorem gLe_int (a b : Int) : gLe (.int a) (.int b) = some (.d (.bool (decide (a ≤ b)))) := by
  unfold gLe
  rw [W.dataLt_int, W.not_lt_int]
  simp [okCmp, shal, W.alike, PyData.depth]
theorem gEq_int (a b : Int) : gEq (.int a) (.int b) = some (.d (.bool (a == b))) := by
  unfold gEq
  simp [PyData.plain, shal, PyData.eqv, PyData.depth]
theorem gNe_int (a b : Int) : gNe (.int a) (.int b) = some (.d (.bool (!(a == b)))) := by
  unfold gNe
  simp [PyData.plain, shal, PyData.eqv, PyData.depth]
def PotOk (a b : Int) : Prop := 0 ≤ a ∧ 0 ≤ b ∧ b < 2147483648
theorem big_small {x : Int} (h1 : -1000000000000 ≤ x) (h2 : x ≤ 1000000000000) : bigI x = true := by
  unfold bigI
  simp only [decide_eq_true_eq]
  omega
theorem pot_b (c : Int) : 0 ≤ c % 2147483563 + 1 ∧ c % 2147483563 + 1 < 2147483648 := by
  have e1 := Int.emod_nonneg c (b := 2147483563) (by omega)
  have e2 := Int.emod_lt_of_pos c (b := 2147483563) (by omega)
  omega
theorem allBool_true : ∀ xs : List D, allBool (xs.map fun _ => .bool true) = some (xs.map fun _ => true)
  | [] => rfl
  | x :: xs => by
    rw [List.map_cons, List.map_cons]
    unfold allBool
    rw [allBool_true xs]
theorem all_true (xs : List D) : gAll [.list (xs.map fun _ => .bool true)] = some (.d (.bool true)) := by
  unfold gAll
  simp only [allBool_true]
  congr 3
  rw [List.all_eq_true]
  intro b hb
  obtain ⟨_, _, e⟩ := List.mem_map.mp hb
  rw [← e]
  rfl
theorem ints_mem {n : Nat} {x : D} (h : x ∈ intsD 0 n) : ∃ k : Nat, x = .int k ∧ k < n := by
  unfold intsD at h
  obtain ⟨k, hk, e⟩ := List.mem_map.mp h
  exact ⟨k, by rw [← e]; simp, List.mem_range.mp hk⟩
theorem putO_new (ρ : Mp.Env) (b : Bx) (outs : List Vl) : putO ρ [.new b] outs = ρ := by
  cases outs with
  | nil => rfl
  | cons o os => cases os <;> rfl
/-- pairs as data -/
def pr (p : Int × Int) : D := .tuple [.int p.1, .int p.2]
def PL (ps : List (Int × Int)) : List D := ps.map pr
theorem pr_eqv (p q : Int × Int) : PyData.eqv (pr p) (pr q) = decide (p = q) := by
  obtain ⟨a, b⟩ := p
  obtain ⟨c, d⟩ := q
  simp [pr, PyData.eqv, PyData.eqvAll, Bool.beq_eq_decide_eq]
theorem PL_plain (ps : List (Int × Int)) : PyData.plainAll (PL ps) = true := by
  induction ps with
  | nil => rfl
  | cons p ps ih =>
    show PyData.plainAll (pr p :: PL ps) = true
    simp [PyData.plainAll, pr, PyData.plain, ih]
theorem PL_any (ps : List (Int × Int)) (q : Int × Int) : ((PL ps).any fun y => PyData.eqv y (pr q)) = decide (q ∈ ps) := by
  induction ps with
  | nil => simp [PL]
  | cons p ps ih =>
    show (PyData.eqv (pr p) (pr q) || (PL ps).any fun y => PyData.eqv y (pr q)) = _
    rw [ih, pr_eqv]
    by_cases h : p = q
    · subst h; simp
    · have h' : ¬ q = p := fun e => h e.symm
      simp [h, h']
theorem pr_ok (q : Int × Int) : ((pr q).plain && shal (pr q)) = true := by
  simp [pr, PyData.plain, PyData.plainAll, shal, PyData.depth, PyData.depthAll]
theorem gIn_PL (ps : List (Int × Int)) (q : Int × Int) : gInA (pr q) (.list (PL ps)) = some (.d (.bool (decide (q ∈ ps)))) := by
  show gIn (pr q) (.list (PL ps)) = _
  unfold gIn
  have h := pr_ok q
  simp only [Bool.and_eq_true] at h
  simp only [PL_plain, h.1, h.2, Bool.and_self, if_true, PL_any]
theorem gIn_PT (ps : List (Int × Int)) (q : Int × Int) : gInA (pr q) (.tuple (PL ps)) = some (.d (.bool (decide (q ∈ ps)))) := by
  show gIn (pr q) (.tuple (PL ps)) = _
  unfold gIn
  have h := pr_ok q
  simp only [Bool.and_eq_true] at h
  simp only [PL_plain, h.1, h.2, Bool.and_self, if_true, PL_any]
theorem gNotIn_PL (ps : List (Int × Int)) (q : Int × Int) : gNotInA (pr q) (.list (PL ps)) = some (.d (.bool (!decide (q ∈ ps)))) := by
  show gNotIn (pr q) (.list (PL ps)) = _
  unfold gNotIn
  have h := pr_ok q
  simp only [Bool.and_eq_true] at h
  simp only [PL_plain, h.1, h.2, Bool.and_self, if_true, PL_any]
theorem gNotIn_PT (ps : List (Int × Int)) (q : Int × Int) : gNotInA (pr q) (.tuple (PL ps)) = some (.d (.bool (!decide (q ∈ ps)))) := by
  show gNotIn (pr q) (.tuple (PL ps)) = _
  unfold gNotIn
  have h := pr_ok q
  simp only [Bool.and_eq_true] at h
  simp only [PL_plain, h.1, h.2, Bool.and_self, if_true, PL_any]
def unpr : D → Int × Int
  | .tuple [.int a, .int b] => (a, b)
  | _ => (0, 0)
theorem unpr_pr (q : Int × Int) : unpr (pr q) = q := rfl
theorem nin_l (ps : List (Int × Int)) (a d : Int) : gNotInA (.tuple [.int a, .int d]) (.list (PL ps)) = some (.d (.bool (!decide ((a, d) ∈ ps)))) := gNotIn_PL ps (a, d)
theorem PL_filter (ps : List (Int × Int)) (p : Int × Int → Bool) (h : Int × Int → Int × Int) : ((PL ps).filter fun x => p (unpr x)).map (fun x => pr (h (unpr x))) = PL ((ps.filter p).map h) := by
  induction ps with
  | nil => rfl
  | cons q ps ih =>
    show ((pr q :: PL ps).filter fun x => p (unpr x)).map _ = _
    rw [List.filter_cons, unpr_pr, List.filter_cons]
    cases p q with
    | true =>
      simp only [if_true, List.map_cons]
      rw [ih]
      rfl
    | false =>
      simp only [Bool.false_eq_true, if_false]
      exact ih
/-- what one turn of the closing adds behind (a, b) -/
def addR (ps : List (Int × Int)) (a b : Int) : List (Int × Int) := (ps.filter fun q => (b == q.1) && !decide ((a, q.2) ∈ ps)).map fun q => (a, q.2)
theorem q_comp (ps : List (Int × Int)) (hz : ps.length ≤ sizeLine) (a b : Int) (v0 v1 v3 v4 x7 x8 : Option Vl) :
    mLc 9 (mIt (mV 2)) (gTp 2 (gs1 (gNm (outs 9 [7, 8]) 7) (gs1 (gNm (outs 9 [7, 8]) 8) gs0))) ((mAnd (mOp2 gEq (mV 6) (mV 7)) (mOp2 gNotInA (mTup [(mD (mV 5)), (mD (mV 8))]) (mV 2)))) (mTup [(mD (mV 5)), (mD (mV 8))]) [7, 8]
      [v0, v1, some (.d (.list (PL ps))), v3, v4, some (.d (.int a)), some (.d (.int b)), x7, x8] =
    .ok (.new (.lst (PL (addR ps a b))), [v0, v1, some (.d (.list (PL ps))), v3, v4, some (.d (.int a)), some (.d (.int b)), x7, x8]) := by
  unfold addR
  rw [← PL_filter]
  refine mLc_pure (p := fun x => (b == (unpr x).1) && !decide ((a, (unpr x).2) ∈ ps)) (h := fun x => pr (a, (unpr x).2)) (by simp [mIt, mV, lk, mD, fz, seqD]) rfl (fun x hx => ?_) (by unfold PL; rw [List.length_map]; exact hz)
  obtain ⟨q, hq, rfl⟩ := List.mem_map.mp hx
  obtain ⟨c, d⟩ := q
  refine ⟨[v0, v1, some (.d (.list (PL ps))), v3, v4, some (.d (.int a)), some (.d (.int b)), some (.d (.int c)), some (.d (.int d))], rfl, rfl, ?_, rfl, fun _ => rfl⟩
  simp only [unpr_pr]
  cases h : (b == c) with
  | true =>
             simp [mAnd, mBr, mOp2, mV, lk, pk, gEq_int, h, bo, Res.rs, mTup, mAs, mD, fz, allD, nin_l]
             exact decide_eq_decide.mpr Iff.rfl
  | false => simp [mAnd, mBr, mOp2, mV, lk, pk, gEq_int, h, bo, Res.rs, mK]
theorem addR_len (ps : List (Int × Int)) (a b : Int) : (addR ps a b).length ≤ ps.length := by
  unfold addR
  rw [List.length_map]
  exact List.length_filter_le _ _
/-- what a turn adds -/
def moreR (ps qs : List (Int × Int)) : List (Int × Int) := qs.flatMap fun q => addR ps q.1 q.2
theorem moreR_len (ps : List (Int × Int)) : ∀ qs : List (Int × Int), (moreR ps qs).length ≤ qs.length * ps.length
  | [] => Nat.zero_le _
  | q :: qs => by
    have h1 := moreR_len ps qs
    have h2 := addR_len ps q.1 q.2
    show ((addR ps q.1 q.2) ++ moreR ps qs).length ≤ _
    rw [List.length_append, List.length_cons, Nat.succ_mul]
    omega
theorem moreR_snoc (ps qs : List (Int × Int)) (q : Int × Int) : moreR ps (qs ++ [q]) = moreR ps qs ++ addR ps q.1 q.2 := by
  unfold moreR
  rw [List.flatMap_append]
  simp
theorem PL_app (ps qs : List (Int × Int)) : PL (ps ++ qs) = PL ps ++ PL qs := by
  unfold PL
  rw [List.map_append]
theorem q_go (ps : List (Int × Int)) (hz : ps.length ≤ 60) (v0 v1 v3 x5 x6 x7 x8 : Option Vl) : ∃ y5 y6,
    forGo (gTp 2 (gs1 (gNm [0, 1] 5) (gs1 (gNm [0, 1] 6) gs0))) (mExpr (mExt (mV 4) (mLc 9 (mIt (mV 2)) (gTp 2 (gs1 (gNm (outs 9 [7, 8]) 7) (gs1 (gNm (outs 9 [7, 8]) 8) gs0))) ((mAnd (mOp2 gEq (mV 6) (mV 7)) (mOp2 gNotInA (mTup [(mD (mV 5)), (mD (mV 8))]) (mV 2)))) (mTup [(mD (mV 5)), (mD (mV 8))]) [7, 8]))) (PL ps)
      [v0, v1, some (.d (.list (PL ps))), v3, some (.own (.lst [])), x5, x6, x7, x8] =
    .ok (.next, [v0, v1, some (.d (.list (PL ps))), v3, some (.own (.lst (PL (moreR ps ps)))), y5, y6, x7, x8]) := by
  have hs : ps.length ≤ sizeLine := by rw [sizeLine_eq]; omega
  obtain ⟨ρ', e, P⟩ := forGo_inv (g := gTp 2 (gs1 (gNm [0, 1] 5) (gs1 (gNm [0, 1] 6) gs0))) (b := mExpr (mExt (mV 4) (mLc 9 (mIt (mV 2)) (gTp 2 (gs1 (gNm (outs 9 [7, 8]) 7) (gs1 (gNm (outs 9 [7, 8]) 8) gs0))) ((mAnd (mOp2 gEq (mV 6) (mV 7)) (mOp2 gNotInA (mTup [(mD (mV 5)), (mD (mV 8))]) (mV 2)))) (mTup [(mD (mV 5)), (mD (mV 8))]) [7, 8])))
    (fun i ρ => ∃ y5 y6, ρ = [v0, v1, some (.d (.list (PL ps))), v3, some (.own (.lst (PL (moreR ps (ps.take i))))), y5, y6, x7, x8]) (PL ps) 0
    [v0, v1, some (.d (.list (PL ps))), v3, some (.own (.lst [])), x5, x6, x7, x8] ⟨x5, x6, rfl⟩ fun i x ρ hx hp => by
      obtain ⟨y5, y6, rfl⟩ := hp
      unfold PL at hx
      rw [List.getElem?_map] at hx
      obtain ⟨q, hq, rfl⟩ := Option.map_eq_some_iff.mp hx
      obtain ⟨a, b⟩ := q
      have ht : ps.take (0 + i + 1) = ps.take (0 + i) ++ [(a, b)] := by
        rw [Nat.zero_add, List.take_succ, hq]
        rfl
      have hl : (PL (moreR ps (ps.take (0 + i)))).length + (PL (addR ps a b)).length ≤ sizeLine := by
        unfold PL
        rw [List.length_map, List.length_map]
        have h1 := moreR_len ps (ps.take (0 + i))
        have h2 := addR_len ps a b
        have h3 : (ps.take (0 + i)).length ≤ 60 := by rw [List.length_take]; omega
        have h4 : (ps.take (0 + i)).length * ps.length ≤ 60 * 60 := Nat.mul_le_mul h3 hz
        rw [sizeLine_eq]
        omega
      refine ⟨[v0, v1, some (.d (.list (PL ps))), v3, some (.own (.lst (PL (moreR ps (ps.take (0 + i + 1)))))), some (.d (.int a)), some (.d (.int b)), x7, x8], .next, ?_, .inl rfl, ⟨_, _, rfl⟩⟩
      rw [ht, moreR_snoc, PL_app]
      show (mExpr _) [v0, v1, some (.d (.list (PL ps))), v3, some (.own (.lst (PL (moreR ps (ps.take (0 + i)))))), some (.d (.int a)), some (.d (.int b)), x7, x8] = _
      unfold mExpr mExt
      rw [show mV 4 [v0, v1, some (.d (.list (PL ps))), v3, some (.own (.lst (PL (moreR ps (ps.take (0 + i)))))), some (.d (.int a)), some (.d (.int b)), x7, x8] = .ok (.var 4, [v0, v1, some (.d (.list (PL ps))), v3, some (.own (.lst (PL (moreR ps (ps.take (0 + i)))))), some (.d (.int a)), some (.d (.int b)), x7, x8]) from rfl]
      simp only [bind_ok, ownL, lk]
      rw [q_comp ps hs]
      simp only [bind_ok, extR, ownL, lk]
      rw [if_pos hl]
      rfl
  obtain ⟨y5, y6, eρ⟩ := P
  refine ⟨y5, y6, ?_⟩
  rw [e, eρ]
  have el : ps.take (0 + (PL ps).length) = ps := by
    unfold PL
    rw [List.length_map, Nat.zero_add, List.take_length]
  rw [el]
theorem q_turn (ps : List (Int × Int)) (hz : ps.length ≤ 60) (v0 v1 v3 x5 x6 x7 x8 : Option Vl) : ∃ y5 y6,
    mFor (mIt (mV 2)) (gTp 2 (gs1 (gNm [0, 1] 5) (gs1 (gNm [0, 1] 6) gs0))) (mExpr (mExt (mV 4) (mLc 9 (mIt (mV 2)) (gTp 2 (gs1 (gNm (outs 9 [7, 8]) 7) (gs1 (gNm (outs 9 [7, 8]) 8) gs0))) ((mAnd (mOp2 gEq (mV 6) (mV 7)) (mOp2 gNotInA (mTup [(mD (mV 5)), (mD (mV 8))]) (mV 2)))) (mTup [(mD (mV 5)), (mD (mV 8))]) [7, 8])))
      [v0, v1, some (.own (.lst (PL ps))), v3, some (.own (.lst [])), x5, x6, x7, x8] =
    .ok (.next, [v0, v1, some (.d (.list (PL ps))), v3, some (.own (.lst (PL (moreR ps ps)))), y5, y6, x7, x8]) := by
  obtain ⟨y5, y6, e⟩ := q_go ps hz v0 v1 v3 x5 x6 x7 x8
  refine ⟨y5, y6, ?_⟩
  unfold mFor
  rw [show mIt (mV 2) [v0, v1, some (.own (.lst (PL ps))), v3, some (.own (.lst [])), x5, x6, x7, x8] = .ok (PL ps, [v0, v1, some (.d (.list (PL ps))), v3, some (.own (.lst [])), x5, x6, x7, x8]) from by simp [mIt, mV, lk, mD, fz, seqD, Bx.ok, Bx.x, Ot.bind]]
  simp only [bind_ok]
  exact e
/-- sorted(set(..)) of pairs -/
def srtP (ps : List (Int × Int)) : List (Int × Int) := (dd (isort (PL ps))).map unpr
theorem PL_back : ∀ {xs : List D}, (∀ x ∈ xs, ∃ q, x = pr q) → PL (xs.map unpr) = xs
  | [], _ => rfl
  | x :: xs, h => by
    obtain ⟨q, e⟩ := h x List.mem_cons_self
    subst e
    show pr (unpr (pr q)) :: PL (xs.map unpr) = _
    rw [unpr_pr, PL_back fun y hy => h y (List.mem_cons_of_mem _ hy)]
theorem PL_srt (ps : List (Int × Int)) : PL (srtP ps) = dd (isort (PL ps)) := PL_back fun x hx => by
  obtain ⟨q, _, e⟩ := List.mem_map.mp (isort_mem.mp (dd_sub hx))
  exact ⟨q, e.symm⟩
theorem PL_tupI (ps : List (Int × Int)) : PL ps = (ps.map fun p => [p.1, p.2]).map tupI := by
  unfold PL
  rw [List.map_map]
  rfl
theorem PL_anti (ps : List (Int × Int)) : ∀ a ∈ PL ps, ∀ b ∈ PL ps, leD a b = true → leD b a = true → a = b := by
  rw [PL_tupI]
  exact tup_anti
theorem mem_PL {ps : List (Int × Int)} {q : Int × Int} : pr q ∈ PL ps ↔ q ∈ ps := by
  unfold PL
  rw [List.mem_map]
  constructor
  · rintro ⟨p, hp, e⟩
    have : p = q := by
      have := congrArg unpr e
      exact this
    rw [← this]
    exact hp
  · intro h
    exact ⟨q, h, rfl⟩
theorem mem_srt {ps : List (Int × Int)} {q : Int × Int} : q ∈ srtP ps ↔ q ∈ ps := by
  rw [← mem_PL, PL_srt, ← mem_PL (ps := ps)]
  exact ⟨fun h => isort_mem.mp (dd_sub h), fun h => dd_mem (fun a ha b hb => PL_anti ps a (isort_mem.mp ha) b (isort_mem.mp hb)) (isort_sorted _) (isort_mem.mpr h)⟩
/-- strictly rising as data -/
def Rise (ps : List (Int × Int)) : Prop := (PL ps).Pairwise fun a b => leD b a = false
theorem srt_rise (ps : List (Int × Int)) : Rise (srtP ps) := by
  unfold Rise
  rw [PL_srt]
  exact dd_strict (isort_sorted _)
theorem rise_eq {ps qs : List (Int × Int)} (h1 : Rise ps) (h2 : Rise qs) (h : ∀ q, q ∈ ps ↔ q ∈ qs) : ps = qs := by
  have e : PL ps = PL qs := strict_uniq h1 h2 fun z => by
    constructor
    · intro hz
      obtain ⟨q, hq, e⟩ := List.mem_map.mp hz
      subst e
      exact mem_PL.mpr ((h q).mp hq)
    · intro hz
      obtain ⟨q, hq, e⟩ := List.mem_map.mp hz
      subst e
      exact mem_PL.mpr ((h q).mpr hq)
  have := congrArg (List.map unpr) e
  unfold PL at this
  rw [List.map_map, List.map_map] at this
  have id1 : ∀ l : List (Int × Int), l.map (unpr ∘ pr) = l := fun l => by
    induction l with
    | nil => rfl
    | cons a l ih => rw [List.map_cons, ih]; rfl
  rw [id1, id1] at this
  exact this
/-- pairs of small numbers -/
def Small (ps : List (Int × Int)) : Prop := ∀ q ∈ ps, 0 ≤ q.1 ∧ q.1 < 16 ∧ 0 ≤ q.2 ∧ q.2 < 16
theorem tupsOf_PL : ∀ {ps : List (Int × Int)}, Small ps → ∃ ns, tupsOf 2 (PL ps) = some ns
  | [], _ => ⟨[], rfl⟩
  | (a, b) :: ps, h => by
    obtain ⟨ns, e⟩ := tupsOf_PL (ps := ps) fun q hq => h q (List.mem_cons_of_mem _ hq)
    have := h (a, b) List.mem_cons_self
    simp only at this
    have hb : bd [a, b] = true := by
      unfold bd bigB
      simp
      omega
    refine ⟨[a, b] :: ns, ?_⟩
    show tupsOf 2 (.tuple [.int a, .int b] :: PL ps) = _
    unfold tupsOf
    simp [intsOf, hb, e]
theorem gSS_PL {ps : List (Int × Int)} (h : Small ps) (hc : (srtP ps).length < 63) : gSS (PL ps) = some (PL (srtP ps)) := by
  have hl : (dd (isort (PL ps))).length < 63 := by
    have := congrArg List.length (PL_srt ps)
    unfold PL at this ⊢
    rw [List.length_map] at this
    rw [← this]
    exact hc
  rw [PL_srt]
  cases ps with
  | nil => rfl
  | cons q ps =>
    obtain ⟨ns, e⟩ := tupsOf_PL h
    obtain ⟨a, b⟩ := q
    have e' : tupsOf 2 (.tuple [.int a, .int b] :: PL ps) = some ns := e
    show gSS (.tuple [.int a, .int b] :: PL ps) = _
    have hl' : (dd (isort (.tuple [.int a, .int b] :: PL ps))).length < 63 := hl
    unfold gSS
    simp only [intsOf, List.length_singleton]
    rw [show (1 : Nat) + 1 = 2 from rfl, e']
    simp only
    rw [if_pos hl']
    rfl
/-- a strict order that all pairs keep -/
structure StrictO (L : Int → Int → Prop) : Prop where
  irr : ∀ x, ¬ L x x
  tr : ∀ x y z, L x y → L y z → L x z
def Gd (n : Nat) (L : Int → Int → Prop) (ps : List (Int × Int)) : Prop := ∀ x y : Int, (x, y) ∈ ps → (0 ≤ x ∧ x < n ∧ 0 ≤ y ∧ y < n) ∧ L x y
theorem Gd.small {n : Nat} (hn : n ≤ 10) {L : Int → Int → Prop} {ps : List (Int × Int)} (h : Gd n L ps) : Small ps := fun q hq => by have := (h q.1 q.2 hq).1; omega
theorem rise_nodup {ps : List (Int × Int)} (h : Rise ps) : ps.Nodup := by
  unfold Rise PL at h
  rw [List.pairwise_map] at h
  refine h.imp fun {a b} hab e => ?_
  subst e
  rw [leD_refl] at hab
  cases hab
theorem srt_gd {n : Nat} {L : Int → Int → Prop} {ps : List (Int × Int)} (h : Gd n L ps) : Gd n L (srtP ps) := fun x y hq => h x y (mem_srt.mp hq)
def tri : List (Int × Int) := ((List.range 100).filter fun k => decide (k / 10 < k % 10)).map fun k => (((k / 10 : Nat) : Int), ((k % 10 : Nat) : Int))
theorem tri_len : tri.length = 45 := by decide +kernel
theorem few_strict {n : Nat} (hn : n ≤ 10) {L : Int → Int → Prop} (s : StrictO L) {ps : List (Int × Int)} (h : Gd n L ps) (nd : ps.Nodup) : ps.length ≤ 45 := by
  have e : (ps.map fun q => if q.1 < q.2 then q else (q.2, q.1)).length ≤ tri.length := by
    refine nodup_len ?_ fun q hq => ?_
    · refine List.pairwise_map.mpr (nd.imp_of_mem fun {p q} hp hq hpq e => hpq ?_)
      obtain ⟨a, b⟩ := p
      obtain ⟨c, d⟩ := q
      have h1 := (h a b hp).2
      have h2 := (h c d hq).2
      simp only at e
      split at e <;> split at e
      · exact e
      · obtain ⟨e1, e2⟩ := Prod.mk.inj e
        subst e1; subst e2
        exact absurd (s.tr _ _ _ h1 h2) (s.irr _)
      · obtain ⟨e1, e2⟩ := Prod.mk.inj e
        subst e1; subst e2
        exact absurd (s.tr _ _ _ h1 h2) (s.irr _)
      · obtain ⟨e1, e2⟩ := Prod.mk.inj e
        subst e1; subst e2
        rfl
    · obtain ⟨⟨a, b⟩, hp, rfl⟩ := List.mem_map.mp hq
      obtain ⟨⟨h1, h2, h3, h4⟩, hL⟩ := h a b hp
      have hne : a ≠ b := fun e => by subst e; exact s.irr _ hL
      have at_ : ∀ x y : Int, 0 ≤ x → x < y → y < 10 → (x, y) ∈ tri := fun x y k1 k2 k3 => by
        unfold tri
        have e1 : (x.toNat * 10 + y.toNat) / 10 = x.toNat := by omega
        have e2 : (x.toNat * 10 + y.toNat) % 10 = y.toNat := by omega
        refine List.mem_map.mpr ⟨x.toNat * 10 + y.toNat, List.mem_filter.mpr ⟨List.mem_range.mpr (by omega), decide_eq_true (by omega)⟩, ?_⟩
        rw [e1, e2]
        exact Prod.ext (by simp; omega) (by simp; omega)
      by_cases hab : a < b
      · simp only [hab, if_true]
        exact at_ a b h1 hab (by omega)
      · simp only [hab, if_false]
        exact at_ b a h3 (by omega) (by omega)
  rw [List.length_map, tri_len] at e
  exact e
theorem srt_len {n : Nat} (hn : n ≤ 10) {L : Int → Int → Prop} (s : StrictO L) {ps : List (Int × Int)} (h : Gd n L ps) : (srtP ps).length ≤ 45 := few_strict hn s (srt_gd h) (rise_nodup (srt_rise ps))
/-- a turn of the closing -/
def stepR (ps : List (Int × Int)) : List (Int × Int) := srtP (ps ++ moreR ps ps)
def closeR : Nat → List (Int × Int) → List (Int × Int)
  | 0, ps => ps
  | n + 1, ps => stepR (closeR n ps)
theorem more_gd {n : Nat} {L : Int → Int → Prop} (s : StrictO L) {ps : List (Int × Int)} (h : Gd n L ps) : Gd n L (moreR ps ps) := fun x y hq => by
  unfold moreR addR at hq
  obtain ⟨⟨a, b⟩, hp, hq⟩ := List.mem_flatMap.mp hq
  obtain ⟨⟨c, d⟩, hr, e⟩ := List.mem_map.mp hq
  obtain ⟨hr, hb⟩ := List.mem_filter.mp hr
  simp only [Bool.and_eq_true, beq_iff_eq] at hb
  have e1 : b = c := hb.1
  subst e1
  cases e
  obtain ⟨h1, l1⟩ := h _ _ hp
  obtain ⟨h2, l2⟩ := h _ _ hr
  exact ⟨⟨h1.1, h1.2.1, h2.2.2⟩, s.tr _ _ _ l1 l2⟩
theorem app_gd {n : Nat} {L : Int → Int → Prop} {ps qs : List (Int × Int)} (h1 : Gd n L ps) (h2 : Gd n L qs) : Gd n L (ps ++ qs) := fun x y hq => (List.mem_append.mp hq).elim (h1 x y) (h2 x y)
theorem close_gd {n : Nat} {L : Int → Int → Prop} (s : StrictO L) {ps : List (Int × Int)} (h : Gd n L ps) : ∀ k, Gd n L (closeR k ps)
  | 0 => h
  | k + 1 => srt_gd (app_gd (close_gd s h k) (more_gd s (close_gd s h k)))
theorem close_len {n : Nat} (hn : n ≤ 10) {L : Int → Int → Prop} (s : StrictO L) {ps : List (Int × Int)} (h : Gd n L ps) : ∀ k, (closeR k (srtP ps)).length ≤ 45
  | 0 => srt_len hn s h
  | k + 1 => srt_len hn s (app_gd (close_gd s (srt_gd h) k) (more_gd s (close_gd s (srt_gd h) k)))
theorem mSS_own {ρ : Mp.Env} {m : M} {ps : List (Int × Int)} {r : Rs} {ρ1 : Mp.Env} {n : Nat} (hn : n ≤ 10) {L : Int → Int → Prop} (s : StrictO L) (hm : m ρ = .ok (r, ρ1)) (hp : pk ρ1 r = some (.list (PL ps))) (h : Gd n L ps) : mSS m ρ = .ok (.new (.lst (PL (srtP ps))), ρ1) := by
  unfold mSS
  rw [hm]
  simp only [bind_ok, hp]
  rw [gSS_PL (h.small hn) (by have := srt_len hn s h; omega)]
theorem mSSA_ok {m : M} {ρ : Mp.Env} {r : Rs × Mp.Env} (h : mSS m ρ = .ok r) : mSSA m ρ = .ok r := by
  unfold mSSA
  rw [h]
def IL (ns : List Int) : List D := ns.map .int
def PotV (a b : Int) : Option Vl := some (.own (.lst [.int a, .int b]))
theorem seqIx {k n : Nat} (h : k < n) : seqIndex? (k : Int) n = some k := by
  have := seqIndex_of (k := (k : Int)) (n := n) (by omega) (by omega)
  simpa using this
theorem IL_get {ns : List Int} {k : Nat} (h : k < ns.length) : (IL ns)[k]? = some (.int ns[k]) := by
  unfold IL
  rw [List.getElem?_map, List.getElem?_eq_getElem h]
  rfl
theorem IL_erase (ns : List Int) (k : Nat) : (IL ns).eraseIdx k = IL (ns.eraseIdx k) := by
  unfold IL
  induction ns generalizing k with
  | nil => rfl
  | cons x ns ih =>
    cases k with
    | zero => rfl
    | succ k => 
      show _ :: (ns.map PyData.int).eraseIdx k = _ :: (ns.eraseIdx k).map PyData.int
      rw [ih]
theorem IL_plain : ∀ ns : List Int, PyData.plainAll (IL ns) = true
  | [] => rfl
  | n :: ns => by
    show PyData.plainAll (PyData.int n :: IL ns) = true
    have := IL_plain ns
    simp [PyData.plainAll, PyData.plain, this]
theorem IL_depth : ∀ ns : List Int, PyData.depthAll (IL ns) ≤ 1
  | [] => by simp [IL, PyData.depthAll]
  | n :: ns => by
    have := IL_depth ns
    show PyData.depthAll (PyData.int n :: IL ns) ≤ 1
    simp [PyData.depthAll, PyData.depth]
    omega
theorem gNe_nil (ps : List Int) : gNe (.list (IL ps)) (.list []) = some (.d (.bool (!ps.isEmpty))) := by
  have h1 := IL_plain ps
  have h2 := IL_depth ps
  unfold gNe
  have : (PyData.list (IL ps)).plain = true := by simp [PyData.plain, h1]
  have h3 : shal (.list (IL ps)) = true := by
    unfold shal
    simp [PyData.depth]
    omega
  rw [this, h3]
  cases ps <;> simp [IL, PyData.plain, PyData.plainAll, PyData.eqv, PyData.eqvAll]
theorem er_perm : ∀ (ps : List Int) (t : Nat) (h : t < ps.length), (ps[t] :: ps.eraseIdx t).Perm ps
  | _ :: _, 0, _ => List.Perm.refl _
  | x :: xs, t + 1, h => by
    have h2 : t < xs.length := by simpa using h
    have := er_perm xs t h2
    exact (List.Perm.swap x xs[t] _).trans (this.cons x)
theorem IL_of : ∀ ys : List D, (∀ y ∈ ys, ∃ v : Int, y = .int v) → ∃ bs : List Int, ys = IL bs
  | [], _ => ⟨[], rfl⟩
  | y :: ys, h => by
    obtain ⟨v, rfl⟩ := h y List.mem_cons_self
    obtain ⟨bs, rfl⟩ := IL_of ys fun z hz => h z (List.mem_cons_of_mem _ hz)
    exact ⟨v :: bs, rfl⟩
/-- an order, as the program's value -/
def O (n : Int) (ps : List (Int × Int)) : D := .tuple [.str "order", .int n, .tuple (PL ps)]
structure Ordr (n : Int) (ps : List (Int × Int)) : Prop where
  lo : 1 ≤ n
  hi : n ≤ 10
  inr : Pm.InR n ps
  rise : Rise ps
  irr : Pm.Irr ps
  tr : Pm.Tr ps
theorem PL_len (ps : List (Int × Int)) : (PL ps).length = ps.length := by unfold PL; rw [List.length_map]
theorem inr_len {n : Int} (h0 : 0 ≤ n) (h1 : n ≤ 10) {ps : List (Int × Int)} (h : Pm.InR n ps) (hr : ps.Nodup) : ps.length ≤ 100 := by
  have hg : ((List.range 100).map fun i => (((i / 10 : Nat) : Int), ((i % 10 : Nat) : Int))).length = 100 := by rw [List.length_map, List.length_range]
  rw [← hg]
  refine nodup_len hr fun q hq => ?_
  obtain ⟨h1, h2, h3, h4⟩ := h q hq
  obtain ⟨a, b⟩ := q
  simp only at h1 h2 h3 h4
  refine List.mem_map.mpr ⟨a.toNat * 10 + b.toNat, List.mem_range.mpr (by omega), ?_⟩
  have e1 : (a.toNat * 10 + b.toNat) / 10 = a.toNat := by omega
  have e2 : (a.toNat * 10 + b.toNat) % 10 = b.toNat := by omega
  rw [e1, e2]
  exact Prod.ext (by simp; omega) (by simp; omega)
theorem Ordr.len {n : Int} {ps : List (Int × Int)} (h : Ordr n ps) : ps.length ≤ 100 := inr_len (by have := h.lo; omega) h.hi h.inr (rise_nodup h.rise)
/-- so many times True -/
def TT (n : Nat) : List D := List.replicate n (.bool true)
theorem TT_map (xs : List D) : (xs.map fun _ => PyData.bool true) = TT xs.length := by unfold TT; exact List.map_const' ..
theorem gAll_TT (n : Nat) : gAll [.list (TT n)] = some (.d (.bool true)) := by
  have := all_true (TT n)
  rw [TT_map] at this
  unfold TT at this ⊢
  simpa using this
theorem mLc_all {n : Nat} {it : MI} {g : MT} {te : M} {vs : List Nat} {ρ ρ1 : Mp.Env} {xs : List D} (hi : it ρ = .ok (xs, ρ1)) (hn : ρ1.length = n)
    (hx : ∀ x ∈ xs, ∃ A1, g x (wipeE ρ1 vs) = .ok A1 ∧ A1.length = n ∧ wipeE A1 vs = wipeE ρ1 vs ∧ mD te A1 = .ok (.d (.bool true), A1)) (hz : xs.length ≤ sizeLine) :
    mLc n it g mYes te vs ρ = .ok (.new (.lst (TT xs.length)), ρ1) := by
  have := mLc_pure (p := fun _ => true) (h := fun _ => .bool true) (tt := mYes) (te := te) hi hn (fun x h => by
    obtain ⟨A1, h1, h2, h3, h4⟩ := hx x h
    exact ⟨A1, h1, h2, rfl, h3, fun _ => h4⟩) hz
  rw [List.filter_eq_self.mpr (fun _ _ => rfl), TT_map] at this
  exact this
theorem map_true {p : D → Bool} {xs : List D} (h : ∀ x ∈ xs, p x = true) : (xs.map fun x => PyData.bool (p x)) = xs.map fun _ => .bool true := List.map_congr_left fun x hx => by rw [h x hx]
theorem filter_tt (xs : List D) : xs.filter (fun _ => true) = xs := List.filter_eq_self.mpr fun _ _ => rfl
theorem gAll_tt (xs : List D) {p : D → Bool} (h : ∀ x ∈ xs, p x = true) : gAll [.list (xs.map fun x => .bool (p x))] = some (.d (.bool true)) := by
  rw [map_true h]
  exact all_true xs
theorem allBool_map (xs : List D) (p : D → Bool) : allBool (xs.map fun x => .bool (p x)) = some (xs.map p) := by
  induction xs with
  | nil => rfl
  | cons x xs ih =>
    rw [List.map_cons]
    unfold allBool
    rw [ih]
    rfl
theorem gAny_map (xs : List D) (p : D → Bool) : gAny [.list (xs.map fun x => .bool (p x))] = some (.d (.bool (xs.any p))) := by
  unfold gAny
  simp only [allBool_map]
  rw [List.any_map]
  rfl
theorem cut1 (xs : List D) : Mp.cutD xs (some 1) none = xs.drop 1 := by
  unfold Mp.cutD
  have e1 : HT.sIx xs.length 0 (some 1) = min 1 xs.length := by
    unfold HT.sIx
    simp
  have e2 : HT.sIx xs.length xs.length none = xs.length := rfl
  rw [e1, e2]
  cases xs with
  | nil => rfl
  | cons x xs =>
    simp
theorem zip_rise : ∀ {xs : List D}, xs.Pairwise (fun a b => leD b a = false) → ∀ z ∈ pairsD xs (xs.drop 1), ∃ x y, z = .tuple [x, y] ∧ leD y x = false ∧ x ∈ xs ∧ y ∈ xs
  | [], _, z, h => by simp [pairsD] at h
  | [x], _, z, h => by simp [pairsD] at h
  | x :: y :: r, hp, z, h => by
    simp only [List.drop_one, List.tail_cons, pairsD, List.mem_cons] at h
    rcases h with rfl | h
    · exact ⟨x, y, rfl, (List.pairwise_cons.mp hp).1 y List.mem_cons_self, List.mem_cons_self, List.mem_cons_of_mem _ List.mem_cons_self⟩
    · obtain ⟨u, v, e, h1, h2, h3⟩ := zip_rise (xs := y :: r) (List.pairwise_cons.mp hp).2 z h
      exact ⟨u, v, e, h1, List.mem_cons_of_mem _ h2, List.mem_cons_of_mem _ h3⟩
theorem pr_alike (p q : Int × Int) : W.alike (pr p) (pr q) = true := by simp [pr, W.alike, W.alikeAll]
theorem gLt_pr {p q : Int × Int} (h : leD (pr q) (pr p) = false) : gLt (pr p) (pr q) = some (.d (.bool true)) := by
  have e : W.dataLt (pr p) (pr q) = true := by
    have : (!W.dataLt (pr p) (pr q)) = false := h
    simpa using this
  unfold gLt okCmp
  rw [pr_alike, e]
  simp [shal, pr, PyData.depth, PyData.depthAll]
theorem gNe_order : gNe (.str "order") (.str "order") = some (.d (.bool false)) := by simp [gNe, PyData.plain, shal, PyData.depth, PyData.eqv]
/-- a while loop by a falling number that may leap -/
theorem whGo_wf {c : M} {b : MS} {P : Nat → Mp.Env → Prop} {Z : Mp.Env → Prop}
    (st : ∀ k ρ, P k ρ → (∃ ρ', c ρ = .ok (.d (.bool false), ρ') ∧ Z ρ') ∨ ∃ ρ1 ρ2 f k', c ρ = .ok (.d (.bool true), ρ1) ∧ b ρ1 = .ok (f, ρ2) ∧ (f = .next ∨ f = .cont) ∧ k' < k ∧ P k' ρ2) :
    ∀ (F k : Nat) (ρ : Mp.Env), k < F → P k ρ → ∃ ρ', whGo c b F ρ = .ok (.next, ρ') ∧ Z ρ'
  | 0, _, _, h, _ => absurd h (Nat.not_lt_zero _)
  | F + 1, k, ρ, hF, h => by
    rcases st k ρ h with ⟨ρ', e, z⟩ | ⟨ρ1, ρ2, f, k', e1, e2, hf, hk, h'⟩
    · exact ⟨ρ', by unfold whGo; rw [e]; simp [bo], z⟩
    · obtain ⟨ρ', e3, z⟩ := whGo_wf st F k' ρ2 (by omega) h'
      refine ⟨ρ', ?_, z⟩
      unfold whGo
      rw [e1]
      simp only [bind_ok, bo]
      rw [e2]
      simp only [bind_ok]
      rcases hf with hf | hf <;> (subst hf; exact e3)
def srt (ps : List (Int × Int)) : List (Int × Int) := (isort (PL ps)).map unpr
theorem PL_sort (ps : List (Int × Int)) : PL (srt ps) = isort (PL ps) := PL_back fun x hx => by
  obtain ⟨q, _, e⟩ := List.mem_map.mp (isort_mem.mp hx)
  exact ⟨q, e.symm⟩
theorem mem_sort {ps : List (Int × Int)} {q : Int × Int} : q ∈ srt ps ↔ q ∈ ps := by
  rw [← mem_PL, PL_sort, ← mem_PL (ps := ps)]
  exact isort_mem
theorem isort_perm (xs : List D) : (isort xs).Perm xs := by
  rw [isort_eq]
  exact List.mergeSort_perm _ _
theorem PL_inj {ps qs : List (Int × Int)} (h : PL ps = PL qs) : ps = qs := by
  have := congrArg (List.map unpr) h
  unfold PL at this
  rw [List.map_map, List.map_map] at this
  have id1 : ∀ l : List (Int × Int), l.map (unpr ∘ pr) = l := fun l => by
    induction l with
    | nil => rfl
    | cons a l ih => rw [List.map_cons, ih]; rfl
  rw [id1, id1] at this
  exact this
theorem pr_inj {p q : Int × Int} (h : pr p = pr q) : p = q := congrArg unpr h
theorem PL_nodup {ps : List (Int × Int)} (h : ps.Nodup) : (PL ps).Nodup := by
  unfold PL
  exact List.pairwise_map.mpr (h.imp fun {a b} hab e => hab (pr_inj e))
theorem sort_rise {ps : List (Int × Int)} (h : ps.Nodup) : Rise (srt ps) := by
  unfold Rise
  rw [PL_sort]
  have h1 := isort_sorted (PL ps)
  have h2 : (isort (PL ps)).Nodup := (isort_perm (PL ps)).symm.nodup (PL_nodup h)
  have anti := PL_anti ps
  have : ∀ xs : List D, (∀ x ∈ xs, x ∈ PL ps) → xs.Pairwise (fun a b => leD a b = true) → xs.Nodup → xs.Pairwise fun a b => leD b a = false := by
    intro xs
    induction xs with
    | nil => intros; exact .nil
    | cons x xs ih =>
      intro hm hp hn
      rw [List.pairwise_cons] at hp ⊢
      rw [List.nodup_cons] at hn
      refine ⟨fun y hy => ?_, ih (fun z hz => hm z (List.mem_cons_of_mem _ hz)) hp.2 hn.2⟩
      cases e : leD y x with
      | false => rfl
      | true =>
        have := anti x (hm x List.mem_cons_self) y (hm y (List.mem_cons_of_mem _ hy)) (hp.1 y hy) e
        subst this
        exact absurd hy hn.1
  exact this _ (fun x hx => isort_mem.mp hx) h1 h2
theorem srt_ok (ps : List (Int × Int)) : srtOk (PL ps) = true := by
  unfold srtOk
  simp only [Bool.and_eq_true, Bool.or_eq_true, List.all_eq_true, decide_eq_true_eq]
  refine ⟨⟨fun x hx y hy => ?_, .inl fun x hx => ?_⟩, fun x hx => ?_⟩
  · obtain ⟨p, _, rfl⟩ := List.mem_map.mp hx
    obtain ⟨q, _, rfl⟩ := List.mem_map.mp hy
    exact pr_alike p q
  · obtain ⟨p, _, rfl⟩ := List.mem_map.mp hx
    rfl
  · obtain ⟨p, _, rfl⟩ := List.mem_map.mp hx
    simp [pr, PyData.depth, PyData.depthAll]
theorem gSort_PL (ps : List (Int × Int)) : gSortedA [.list (PL ps)] = some (.lst (PL (srt ps))) := by
  show gSorted [.list (PL ps)] = _
  unfold gSorted
  simp only [srt_ok, if_true, PL_sort]
abbrev KR := List (Int × List Int)
def DK (kvs : KR) : List (Key × D) := kvs.map fun q => ((.inl q.1 : Key), PyData.list (IL q.2))
def ks (kvs : KR) : List Int := kvs.map Prod.fst
theorem ks_app (kvs : KR) (q : Int × List Int) : ks (kvs ++ [q]) = ks kvs ++ [q.1] := by unfold ks; rw [List.map_append]; rfl
theorem DK_app (kvs : KR) (q : Int × List Int) : DK (kvs ++ [q]) = DK kvs ++ [((.inl q.1 : Key), PyData.list (IL q.2))] := by unfold DK; rw [List.map_append]; rfl
theorem val_DK (k : Int) : ∀ kvs : KR, (k ∉ ks kvs ∧ valD (DK kvs) (.inl k) = none) ∨ ∃ p, (k, p) ∈ kvs ∧ valD (DK kvs) (.inl k) = some (.list (IL p))
  | [] => .inl ⟨by simp [ks], rfl⟩
  | (j, p) :: kvs => by
    by_cases h : j = k
    · subst h
      exact .inr ⟨p, List.mem_cons_self, by simp [DK, valD, List.find?]⟩
    · have e : valD (DK ((j, p) :: kvs)) (.inl k) = valD (DK kvs) (.inl k) := by
        have hne : ((.inl j : Key) = .inl k) = False := eq_false fun e => h (Sum.inl.inj e)
        simp [DK, valD, List.find?, hne, h]
      rw [e]
      rcases val_DK k kvs with ⟨h1, h2⟩ | ⟨q, h1, h2⟩
      · exact .inl ⟨by simp [ks] at h1 ⊢; exact ⟨fun e => h e.symm, h1⟩, h2⟩
      · exact .inr ⟨q, List.mem_cons_of_mem _ h1, h2⟩
theorem put_DK {k : Int} {p : List Int} {kvs : KR} (h : k ∉ ks kvs) : putD (DK kvs) (.inl k) (.list (IL p)) = DK (kvs ++ [(k, p)]) := by
  unfold putD
  have : ((DK kvs).any fun q => decide (q.1 = (.inl k : Key))) = false := by
    rw [List.any_eq_false]
    intro q hq
    obtain ⟨r, hr, rfl⟩ := List.mem_map.mp hq
    simp only [decide_eq_true_eq]
    intro e
    exact h (List.mem_map.mpr ⟨r, hr, Sum.inl.inj e⟩)
  rw [this, DK_app]
  rfl
theorem mem_ks {kvs : KR} {k : Int} {p : List Int} (h : (k, p) ∈ kvs) : k ∈ ks kvs := List.mem_map.mpr ⟨_, h, rfl⟩
theorem intsOf_IL : ∀ ns : List Int, intsOf (IL ns) = some ns
  | [] => rfl
  | n :: ns => by
    show intsOf (PyData.int n :: IL ns) = _
    unfold intsOf
    rw [intsOf_IL ns]
theorem IL_back {xs : List D} (h : ∀ x ∈ xs, ∃ i : Int, x = .int i) : ∃ ns, xs = IL ns := IL_of xs h
theorem IL_mem {ns : List Int} {i : Int} : PyData.int i ∈ IL ns ↔ i ∈ ns := by
  unfold IL
  rw [List.mem_map]
  constructor
  · rintro ⟨j, h, e⟩
    cases e
    exact h
  · exact fun h => ⟨i, h, rfl⟩
theorem gSS_IL (ns : List Int) (h : ns.length < 64) : ∃ ss, gSS (IL ns) = some (IL ss) ∧ (∀ i, i ∈ ss ↔ i ∈ ns) ∧ ss.length ≤ ns.length := by
  have h0 : gSS (IL ns) = some (dd (isort (IL ns))) := by
    unfold gSS
    simp only [intsOf_IL, h, if_true]
  obtain ⟨ss, e⟩ := IL_back (xs := dd (isort (IL ns))) fun x hx => by
    obtain ⟨i, _, e⟩ := List.mem_map.mp (isort_mem.mp (dd_sub hx))
    exact ⟨i, e.symm⟩
  have hm : ∀ i, i ∈ ss ↔ i ∈ ns := fun i => by
    rw [← IL_mem (ns := ss), ← e, ← IL_mem (ns := ns)]
    exact ⟨fun h => isort_mem.mp (dd_sub h), fun h => dd_mem (fun a ha b hb => int_anti a (isort_mem.mp ha) b (isort_mem.mp hb)) (isort_sorted _) (isort_mem.mpr h)⟩
  refine ⟨ss, by rw [h0, e], hm, ?_⟩
  have nd : ss.Nodup := by
    have := dd_strict (isort_sorted (IL ns))
    rw [e] at this
    unfold IL at this
    rw [List.pairwise_map] at this
    refine this.imp fun {a b} hab q => ?_
    subst q
    rw [leD_refl] at hab
    cases hab
  exact nodup_len nd fun x hx => (hm x).mp hx
/-- the reports as they stand in a name: w, once walked -/
def LV (v : Option Vl) (w : D) (qs : List (Int × Int)) : Prop := (w = .list (PL qs) ∨ w = .tuple (PL qs)) ∧ (v = some (.d w) ∨ (w = .list (PL qs) ∧ v = some (.own (.lst (PL qs)))))
def LI (v : Option Vl) (ns : List Int) : Prop := v = some (.d (.list (IL ns))) ∨ v = some (.own (.lst (IL ns)))
def succ (qs : List (Int × Int)) (h : Int) : List Int := (qs.filter fun q => q.1 == h).map Prod.snd
theorem mem_succ {qs : List (Int × Int)} {h y : Int} : y ∈ succ qs h ↔ (h, y) ∈ qs := by
  unfold succ
  rw [List.mem_map]
  constructor
  · rintro ⟨⟨a, b⟩, hq, e⟩
    simp at hq e
    obtain ⟨h1, h2⟩ := hq
    subst h2; subst e
    exact h1
  · exact fun h => ⟨(_, y), List.mem_filter.mpr ⟨h, by simp⟩, rfl⟩
theorem PL_fm (ps : List (Int × Int)) (p : Int × Int → Bool) (f : Int × Int → D) : ((PL ps).filter fun x => p (unpr x)).map (fun x => f (unpr x)) = (ps.filter p).map f := by
  induction ps with
  | nil => rfl
  | cons q ps ih =>
    show ((pr q :: PL ps).filter fun x => p (unpr x)).map _ = _
    rw [List.filter_cons, unpr_pr, List.filter_cons]
    cases p q with
    | true =>
      simp only [if_true, List.map_cons]
      rw [ih]
      rfl
    | false =>
      simp only [Bool.false_eq_true, if_false]
      exact ih
/-- a row of steps from b to k -/
def Row (qs : List (Int × Int)) (b k : Int) (p : List Int) : Prop := 2 ≤ p.length ∧ p.head? = some b ∧ p.getLast? = some k ∧ ∀ q ∈ p.zip p.tail, q ∈ qs
theorem Row.two {qs : List (Int × Int)} {b y : Int} (h : (b, y) ∈ qs) : Row qs b y [b, y] := ⟨Nat.le_refl _, rfl, rfl, fun q hq => by
  rw [List.mem_singleton.mp (show q ∈ [(b, y)] from hq)]
  exact h⟩
theorem zip_tail_snoc {y : Int} : ∀ (p : List Int) (x : Int), p.getLast? = some x → (p ++ [y]).zip (p ++ [y]).tail = p.zip p.tail ++ [(x, y)]
  | [], x, h => by cases h
  | [a], x, h => by cases h; rfl
  | a :: b :: r, x, h => by
    have := zip_tail_snoc (y := y) (b :: r) x (by rw [List.getLast?_cons_cons] at h; exact h)
    show (a, b) :: ((b :: r ++ [y]).zip (b :: r ++ [y]).tail) = (a, b) :: ((b :: r).zip (b :: r).tail ++ [(x, y)])
    rw [this]
theorem Row.snoc {qs : List (Int × Int)} {b x y : Int} {p : List Int} (h : Row qs b x p) (m : (x, y) ∈ qs) : Row qs b y (p ++ [y]) := by
  obtain ⟨h1, h2, h3, h4⟩ := h
  refine ⟨by rw [List.length_append]; omega, ?_, by simp, fun q hq => ?_⟩
  · cases p with
    | nil => cases h2
    | cons a p => exact h2
  · rw [zip_tail_snoc p x h3] at hq
    rcases List.mem_append.mp hq with hq | hq
    · exact h4 q hq
    · rw [List.mem_singleton.mp hq]; exact m
/-- the state of one begin's search: rows known, runners still to be left -/
structure Jn (n : Int) (qs : List (Int × Int)) (bg : Int) (kvs : KR) (T : List Int) : Prop where
  nd : (ks kvs).Nodup
  snd : ∀ k ∈ ks kvs, Pm.Rch qs bg k
  pl : ∀ k p, (k, p) ∈ kvs → p.length ≤ kvs.length + 1
  cmp : ∀ x, (x = bg ∨ x ∈ ks kvs) → x ∈ T ∨ ∀ y, (x, y) ∈ qs → y ∈ ks kvs
  sub : ∀ t ∈ T, t = bg ∨ t ∈ ks kvs
  row : ∀ k p, (k, p) ∈ kvs → Row qs bg k p
theorem Jn.len {n : Int} {qs : List (Int × Int)} {bg : Int} {kvs : KR} {T : List Int} (J : Jn n qs bg kvs T) (h : Pm.InR n qs) (h0 : n ≤ 10) : kvs.length ≤ 10 := by
  have : (ks kvs).length ≤ ((List.range 10).map fun i : Nat => (i : Int)).length := nodup_len J.nd fun x hx => by
    have := (J.snd x hx).inr h
    exact List.mem_map.mpr ⟨x.toNat, List.mem_range.mpr (by omega), by omega⟩
  unfold ks at this
  simpa using this
theorem Jn.start (n : Int) (qs : List (Int × Int)) (bg : Int) : Jn n qs bg [] [bg] :=
  { nd := .nil
    snd := fun k h => by cases h
    pl := fun k p h => by cases h
    cmp := fun x h => .inl (by rcases h with rfl | h <;> first | exact List.mem_singleton.mpr rfl | cases h)
    sub := fun t h => .inl (List.mem_singleton.mp h)
    row := fun k p h => by cases h }
theorem Jn.add {n : Int} {qs : List (Int × Int)} {bg : Int} {kvs : KR} {T : List Int} (J : Jn n qs bg kvs T) {y : Int} {p : List Int} (hy : y ∉ ks kvs) (r : Pm.Rch qs bg y) (hp : p.length ≤ kvs.length + 2) (hw : Row qs bg y p) : Jn n qs bg (kvs ++ [(y, p)]) (T ++ [y]) := by
  have hk : ∀ z, z ∈ ks (kvs ++ [(y, p)]) ↔ z ∈ ks kvs ∨ z = y := fun z => by rw [ks_app]; simp
  refine ⟨?_, fun k h => ?_, fun k q h => ?_, fun x h => ?_, fun t h => ?_, fun k q h => ?_⟩
  · rw [ks_app]
    exact List.nodup_append.mpr ⟨J.nd, by simp, fun a ha b hb e => by simp at hb; subst e; subst hb; exact hy ha⟩
  · rcases (hk k).mp h with h | rfl
    · exact J.snd k h
    · exact r
  · rw [List.length_append, List.length_singleton]
    rcases List.mem_append.mp h with h | h
    · have := J.pl k q h; omega
    · simp at h
      obtain ⟨rfl, rfl⟩ := h
      omega
  · rw [hk] at h
    rcases h with h | h | h
    · rcases J.cmp x (.inl h) with h | h
      · exact .inl (List.mem_append.mpr (.inl h))
      · exact .inr fun z hz => (hk z).mpr (.inl (h z hz))
    · rcases J.cmp x (.inr h) with h | h
      · exact .inl (List.mem_append.mpr (.inl h))
      · exact .inr fun z hz => (hk z).mpr (.inl (h z hz))
    · exact .inl (List.mem_append.mpr (.inr (by simp [h])))
  · rcases List.mem_append.mp h with h | h
    · exact (J.sub t h).imp id fun h => (hk t).mpr (.inl h)
    · exact .inr ((hk t).mpr (.inr (by simpa using h)))
  · rcases List.mem_append.mp h with h | h
    · exact J.row k q h
    · simp at h
      obtain ⟨rfl, rfl⟩ := h
      exact hw
theorem Jn.done {n : Int} {qs : List (Int × Int)} {bg : Int} {kvs : KR} {x : Int} {T : List Int} (J : Jn n qs bg kvs (x :: T)) (h : ∀ y, (x, y) ∈ qs → y ∈ ks kvs) : Jn n qs bg kvs T :=
  ⟨J.nd, J.snd, J.pl, fun z hz => by
    rcases J.cmp z hz with h1 | h1
    · rcases List.mem_cons.mp h1 with rfl | h1
      · exact .inr h
      · exact .inl h1
    · exact .inr h1, fun t ht => J.sub t (List.mem_cons_of_mem _ ht), J.row⟩
theorem Jn.fin {n : Int} {qs : List (Int × Int)} {bg : Int} {kvs : KR} (J : Jn n qs bg kvs []) (k : Int) : k ∈ ks kvs ↔ Pm.Rch qs bg k := by
  refine ⟨J.snd k, fun r => ?_⟩
  induction r with
  | one m => exact (J.cmp bg (.inl rfl)).elim (fun h => by cases h) fun h => h _ m
  | more _ m ih => exact (J.cmp _ (.inr ih)).elim (fun h => by cases h) fun h => h _ m
theorem IL_len (ns : List Int) : (IL ns).length = ns.length := by unfold IL; rw [List.length_map]
theorem IL_app (a b : List Int) : IL (a ++ b) = IL a ++ IL b := by unfold IL; rw [List.map_append]
theorem gNin_DK (y : Int) (kvs : KR) : gNotInA (.int y) (.dict (kvD (DK kvs))) = some (.d (.bool (!(valD (DK kvs) (.inl y)).isSome))) := by
  show (match keyOfD (.int y), unK (kvD (DK kvs)) with
    | some k, some kvs => some (Res.d (.bool (!(valD kvs k).isSome)))
    | _, _ => none) = _
  rw [unK_kvD]
  rfl
theorem succ_len (qs : List (Int × Int)) (h : Int) : (succ qs h).length ≤ qs.length := by
  unfold succ
  rw [List.length_map]
  exact List.length_filter_le _ _
theorem take_snoc {α : Type} {xs : List α} {i : Nat} {x : α} (h : xs[i]? = some x) : xs.take (i + 1) = xs.take i ++ [x] := by
  rw [List.take_succ, h]
  rfl
/-- a dict of dicts of rows -/
abbrev KK := List (Int × KR)
def DKK (f : KK) : List (Key × D) := f.map fun q => ((.inl q.1 : Key), PyData.dict (kvD (DK q.2)))
theorem DKK_app (f : KK) (q : Int × KR) : DKK (f ++ [q]) = DKK f ++ [((.inl q.1 : Key), PyData.dict (kvD (DK q.2)))] := by unfold DKK; rw [List.map_append]; rfl
theorem put_DKK {k : Int} {r : KR} {f : KK} (h : k ∉ f.map Prod.fst) : putD (DKK f) (.inl k) (.dict (kvD (DK r))) = DKK (f ++ [(k, r)]) := by
  unfold putD
  have : ((DKK f).any fun q => decide (q.1 = (.inl k : Key))) = false := by
    rw [List.any_eq_false]
    intro q hq
    obtain ⟨r, hr, rfl⟩ := List.mem_map.mp hq
    simp only [decide_eq_true_eq]
    intro e
    exact h (List.mem_map.mpr ⟨r, hr, Sum.inl.inj e⟩)
  rw [this, DKK_app]
  rfl
theorem val_DKK {k : Int} : ∀ {f : KK}, k ∈ f.map Prod.fst → ∃ r, (k, r) ∈ f ∧ valD (DKK f) (.inl k) = some (.dict (kvD (DK r)))
  | (j, p) :: f, hk => by
    by_cases h : j = k
    · subst h
      exact ⟨p, List.mem_cons_self, by simp [DKK, valD, List.find?]⟩
    · have e : valD (DKK ((j, p) :: f)) (.inl k) = valD (DKK f) (.inl k) := by
        have hne : ((.inl j : Key) = .inl k) = False := eq_false fun e => h (Sum.inl.inj e)
        simp [DKK, valD, List.find?, hne, h]
      rw [e]
      have hk' : k ∈ f.map Prod.fst := by
        rcases List.mem_cons.mp hk with hk | hk
        · exact absurd hk.symm h
        · exact hk
      obtain ⟨r, h1, h2⟩ := val_DKK (k := k) (f := f) hk'
      exact ⟨r, List.mem_cons_of_mem _ h1, h2⟩
def upI (n : Nat) : List Int := (List.range n).map fun i : Nat => (i : Int)
theorem intsD_up (n : Nat) : intsD 0 n = IL (upI n) := by
  unfold intsD IL upI
  rw [List.map_map]
  refine List.map_congr_left fun x _ => ?_
  simp
theorem upI_get {n i : Nat} (h : i < n) : (upI n)[i]? = some (i : Int) := by
  unfold upI
  rw [List.getElem?_map, List.getElem?_range h]
  rfl
theorem upI_len (n : Nat) : (upI n).length = n := by unfold upI; rw [List.length_map, List.length_range]
theorem mem_upI {n : Nat} {x : Int} : x ∈ upI n ↔ 0 ≤ x ∧ x < n := by
  unfold upI
  rw [List.mem_map]
  constructor
  · rintro ⟨i, h, rfl⟩
    have := List.mem_range.mp h
    omega
  · rintro ⟨h1, h2⟩
    exact ⟨x.toNat, List.mem_range.mpr (by omega), by omega⟩
theorem range1 {ρ : Mp.Env} {m : M} {n : Nat} (hn : n ≤ 1000) (h : m ρ = .ok (.d (.int n), ρ)) : mRange rg1 [m] ρ = .ok (IL (upI n), ρ) := by
  have hs : smI (n : Int) = true := by unfold smI; simp only [decide_eq_true_eq]; omega
  rw [← intsD_up]
  simp [mRange, mAs, h, Ot.bind, allI, rg1, hs]
theorem unK_DKK (f : KK) : unK (kvD (DKK f)) = some (DKK f) := unK_kvD _
theorem keysI_DK : ∀ r : KR, keysI (DK r) = some (ks r)
  | [] => rfl
  | (k, p) :: r => by
    show keysI ((.inl k, .list (IL p)) :: DK r) = _
    unfold keysI
    rw [keysI_DK r]
    rfl
def unI : D → Int
  | .int i => i
  | _ => 0
theorem gSort_DK {r : KR} (h : r.length < 64) : ∃ ss, gSortedA [.dict (kvD (DK r))] = some (.lst (IL ss)) ∧ ss.Perm (ks r) := by
  obtain ⟨ss, e⟩ := IL_back (xs := isort (IL (ks r))) fun x hx => by
    obtain ⟨i, _, e⟩ := List.mem_map.mp (isort_mem.mp hx)
    exact ⟨i, e.symm⟩
  have hl : (ks r).length < 64 := by unfold ks; rw [List.length_map]; exact h
  refine ⟨ss, ?_, ?_⟩
  · unfold gSortedA
    simp only [unK_kvD, keysI_DK, hl, if_true]
    rw [← e]
    rfl
  · have pm := isort_perm (IL (ks r))
    rw [e] at pm
    have := pm.map unI
    unfold IL at this
    rw [List.map_map, List.map_map] at this
    have id1 : ∀ l : List Int, l.map (unI ∘ PyData.int) = l := fun l => by
      induction l with
      | nil => rfl
      | cons a l ih => rw [List.map_cons, ih]; rfl
    rw [id1, id1] at this
    exact this
theorem succ_app (ps qs : List (Int × Int)) (h : Int) : succ (ps ++ qs) h = succ ps h ++ succ qs h := by
  unfold succ
  rw [List.filter_append, List.map_append]
theorem succ_few {n : Int} {ps : List (Int × Int)} (hr : Pm.InR n ps) (hn : n ≤ 10) (nd : ps.Nodup) (h : Int) : (succ ps h).length ≤ 10 := by
  have e : ((List.range 10).map fun i : Nat => (i : Int)).length = 10 := by rw [List.length_map, List.length_range]
  rw [← e]
  refine nodup_len ?_ fun y hy => ?_
  · unfold succ
    refine List.pairwise_map.mpr ((nd.filter _).imp_of_mem fun {a b} ha hb hab q => hab ?_)
    have h1 := (List.mem_filter.mp ha).2
    have h2 := (List.mem_filter.mp hb).2
    simp at h1 h2
    exact Prod.ext (by rw [h1, h2]) q
  · have := hr _ (mem_succ.mp hy)
    exact List.mem_map.mpr ⟨y.toNat, List.mem_range.mpr (by omega), by omega⟩
theorem Ordr.succ {n : Int} {ps : List (Int × Int)} (h : Ordr n ps) (q : Int × Int) (x : Int) : (succ (ps ++ [q]) x).length < 64 := by
  rw [succ_app, List.length_append]
  have h1 := succ_few h.inr h.hi (rise_nodup h.rise) x
  have h2 := succ_len [q] x
  simp at h2
  omega
theorem Ordr.pair {n : Int} {ps : List (Int × Int)} (h : Ordr n ps) {a b : Int} (hp : 0 ≤ a ∧ a < n ∧ 0 ≤ b ∧ b < n ∧ a ≠ b) : Pm.InR n (ps ++ [(a, b)]) := fun q hq => by
  rcases List.mem_append.mp hq with hq | hq
  · exact h.inr q hq
  · rw [List.mem_singleton.mp hq]
    exact ⟨hp.1, hp.2.1, hp.2.2.1, hp.2.2.2.1⟩
theorem Ordr.more {n : Int} {ps cs : List (Int × Int)} (h : Ordr n ps) {a b : Int} (hp : 0 ≤ a ∧ a < n ∧ 0 ≤ b ∧ b < n ∧ a ≠ b) (hn : (b, a) ∉ ps) (nd : cs.Nodup) (hm : ∀ x y, (x, y) ∈ cs ↔ Pm.Rch (ps ++ [(a, b)]) x y) :
    Ordr n (srt cs) ∧ ∀ x y, (x, y) ∈ srt cs ↔ Pm.Cl ps a b x y := by
  have hc : ∀ x y, (x, y) ∈ srt cs ↔ Pm.Cl ps a b x y := fun x y => by rw [mem_sort, hm, Pm.rch_one h.tr hn hp.2.2.2.2]
  refine ⟨⟨h.lo, h.hi, fun q hq => ?_, sort_rise nd, fun x hx => ?_, fun x y z h1 h2 => ?_⟩, hc⟩
  · have hq' : (q.1, q.2) ∈ cs := mem_sort.mp hq
    have hr := (hm q.1 q.2).mp hq'
    obtain ⟨z, hz⟩ := hr.from
    have h1 := h.pair hp _ hz
    have h2 := hr.inr (h.pair hp)
    exact ⟨h1.1, h1.2.1, h2.1, h2.2⟩
  · exact Pm.cl_irr h.irr h.tr hn hp.2.2.2.2 x ((hc x x).mp hx)
  · exact (hc x z).mpr (Pm.cl_tr h.tr hn hp.2.2.2.2 ((hc x y).mp h1) ((hc y z).mp h2))
theorem PLs (ps : List (Int × Int)) (a b : Int) : PL ps ++ [.tuple [.int a, .int b]] = PL (ps ++ [(a, b)]) := by rw [PL_app]; rfl
theorem Ordr.both {n : Int} {ps qs : List (Int × Int)} (h : Ordr n ps) (h' : Ordr n qs) : Ordr n (srt (ps.filter fun q => decide (q ∈ qs))) ∧ ∀ q, q ∈ srt (ps.filter fun q => decide (q ∈ qs)) ↔ q ∈ ps ∧ q ∈ qs := by
  have hm : ∀ q, q ∈ srt (ps.filter fun q => decide (q ∈ qs)) ↔ q ∈ ps ∧ q ∈ qs := fun q => by rw [mem_sort, List.mem_filter, decide_eq_true_iff]
  exact ⟨⟨h.lo, h.hi, fun q hq => h.inr q ((hm q).mp hq).1, sort_rise ((rise_nodup h.rise).filter _), fun x hx => h.irr x ((hm _).mp hx).1, fun x y z h1 h2 =>
    (hm _).mpr ⟨h.tr _ _ _ ((hm _).mp h1).1 ((hm _).mp h2).1, h'.tr _ _ _ ((hm _).mp h1).2 ((hm _).mp h2).2⟩⟩, hm⟩
/-- a filtered rising list is rising already -/
theorem srt_filter {ps : List (Int × Int)} (h : Rise ps) (p : Int × Int → Bool) : srt (ps.filter p) = ps.filter p := by
  refine rise_eq (sort_rise ((rise_nodup h).filter _)) ?_ fun q => mem_sort
  unfold Rise PL at h ⊢
  rw [List.pairwise_map] at h ⊢
  exact h.filter _
theorem unpr_d (q : Int × Int) : PyData.tuple [.int q.1, .int q.2] = pr q := rfl
def Apart (ps : List (Int × Int)) (x y : Int) : Prop := x ≠ y ∧ (x, y) ∉ ps ∧ (y, x) ∉ ps
instance (ps : List (Int × Int)) (x y : Int) : Decidable (Apart ps x y) := by unfold Apart; infer_instance
theorem range2 {ρ : Mp.Env} {m m' : M} {a b : Int} (h1 : m ρ = .ok (.d (.int a), ρ)) (h2 : m' ρ = .ok (.d (.int b), ρ)) (ha : 0 ≤ a ∧ a ≤ 1000) (hb : 0 ≤ b ∧ b ≤ 1000) : mRange rg2 [m, m'] ρ = .ok (intsD a (b - a).toNat, ρ) := by
  have s1 : smI a = true := by unfold smI; simp only [decide_eq_true_eq]; omega
  have s2 : smI b = true := by unfold smI; simp only [decide_eq_true_eq]; omega
  simp [mRange, mAs, h1, h2, Ot.bind, allI, rg2, s1, s2]
def upF (a : Int) (n : Nat) : List Int := (List.range n).map fun i : Nat => a + (i : Int)
theorem intsD_F (a : Int) (n : Nat) : intsD a n = IL (upF a n) := by
  unfold intsD IL upF
  rw [List.map_map]
  rfl
theorem mem_upF {a x : Int} {n : Nat} : x ∈ upF a n ↔ a ≤ x ∧ x < a + n := by
  unfold upF
  rw [List.mem_map]
  constructor
  · rintro ⟨i, h, rfl⟩
    have := List.mem_range.mp h
    omega
  · rintro ⟨h1, h2⟩
    exact ⟨(x - a).toNat, List.mem_range.mpr (by omega), by omega⟩
def apR (ps : List (Int × Int)) (n : Nat) (x : Int) : List (Int × Int) := ((upF (x + 1) (n - (x + 1)).toNat).filter fun y => decide (Apart ps x y)).map fun y => (x, y)
theorem shaped_int (r : Int) : SeqAt.shaped (.int r) = true := rfl
theorem canLay_IL : ∀ ns : List Int, PyData.canLayAll0 (IL ns) = true
  | [] => rfl
  | n :: ns => by
    show PyData.canLayAll0 (PyData.int n :: IL ns) = true
    simp [PyData.canLayAll0, PyData.canLay0, canLay_IL ns]
theorem shaped_IL (ns : List Int) : SeqAt.shaped (.list (IL ns)) = true := by
  have h2 := IL_depth ns
  show (PyData.canLay0 (.list (IL ns)) && decide (PyData.depth (.list (IL ns)) ≤ 64)) = true
  rw [show PyData.canLay0 (.list (IL ns)) = true from by simp only [PyData.canLay0, canLay_IL], Bool.true_and]
  refine decide_eq_true ?_
  simp only [PyData.depth]
  omega
theorem idx_IL : ∀ {nm : List Int} {r : Int}, r ∈ nm → ∃ k, idxD (IL nm) (.int r) = some k ∧ nm[k]? = some r
  | x :: nm, r, h => by
    unfold idxD
    show ∃ k, List.findIdx? (fun z => PyData.eqv z (.int r)) (PyData.int x :: IL nm) = some k ∧ _
    rw [List.findIdx?_cons]
    have ev : PyData.eqv (.int x) (.int r) = (x == r) := by simp [PyData.eqv]
    rw [ev]
    by_cases hx : x = r
    · subst hx
      exact ⟨0, by simp, rfl⟩
    · have hb : (x == r) = false := beq_eq_false_iff_ne.mpr hx
      rw [hb]
      rcases List.mem_cons.mp h with h | h
      · exact absurd h.symm hx
      · obtain ⟨k, h1, h2⟩ := idx_IL h
        unfold idxD at h1
        exact ⟨k + 1, by simp [h1], by simpa using h2⟩
def iN (nm : List Int) (r : Int) : Int := (((idxD (IL nm) (.int r)).getD 0 : Nat) : Int)
theorem iN_get {nm : List Int} {r : Int} (h : r ∈ nm) : 0 ≤ iN nm r ∧ iN nm r < nm.length ∧ nm[(iN nm r).toNat]? = some r ∧ idxD (IL nm) (.int r) = some (iN nm r).toNat := by
  obtain ⟨k, h1, h2⟩ := idx_IL h
  have e : iN nm r = (k : Int) := by unfold iN; rw [h1]; rfl
  have hk : k < nm.length := (List.getElem?_eq_some_iff.mp h2).1
  rw [e]
  refine ⟨by omega, by omega, ?_, ?_⟩ <;> simp [h1, h2]
theorem iN_inj {nm : List Int} {r s : Int} (h1 : r ∈ nm) (h2 : s ∈ nm) (e : iN nm r = iN nm s) : r = s := by
  have a := (iN_get h1).2.2.1
  have b := (iN_get h2).2.2.1
  rw [e, b] at a
  exact (Option.some.inj a).symm
theorem mem_step {ps : List (Int × Int)} {x y : Int} : (x, y) ∈ stepR ps ↔ (x, y) ∈ ps ∨ ∃ b, (x, b) ∈ ps ∧ (b, y) ∈ ps := by
  unfold stepR
  rw [mem_srt, List.mem_append]
  constructor
  · rintro (h | h)
    · exact .inl h
    · unfold moreR addR at h
      obtain ⟨⟨a, b⟩, hp, hq⟩ := List.mem_flatMap.mp h
      obtain ⟨⟨c, d⟩, hr, e⟩ := List.mem_map.mp hq
      obtain ⟨h1, h2⟩ := List.mem_filter.mp hr
      simp only [Bool.and_eq_true, beq_iff_eq] at h2
      cases e
      exact .inr ⟨b, hp, by rw [h2.1]; exact h1⟩
  · rintro (h | ⟨b, h1, h2⟩)
    · exact .inl h
    · by_cases h : (x, y) ∈ ps
      · exact .inl h
      · refine .inr ?_
        unfold moreR addR
        refine List.mem_flatMap.mpr ⟨(x, b), h1, List.mem_map.mpr ⟨(b, y), List.mem_filter.mpr ⟨h2, ?_⟩, rfl⟩⟩
        rw [decide_eq_false h]
        simp
inductive Pth (ps : List (Int × Int)) : Nat → Int → Int → Prop
  | one {x y} : (x, y) ∈ ps → Pth ps 1 x y
  | cons {k x y z} : (x, y) ∈ ps → Pth ps k y z → Pth ps (k + 1) x z
theorem Pth.pos {ps : List (Int × Int)} {k : Nat} {x y : Int} (h : Pth ps k x y) : 1 ≤ k := by cases h <;> omega
theorem Pth.app {ps : List (Int × Int)} {k l : Nat} {x y z : Int} (h : Pth ps k x y) (g : Pth ps l y z) : Pth ps (k + l) x z := by
  induction h with
  | one m => rw [Nat.add_comm]; exact .cons m g
  | @cons k x y z m _ ih => rw [Nat.add_right_comm]; exact .cons m (ih g)
theorem Pth.split {ps : List (Int × Int)} : ∀ {a b : Nat} {x y : Int}, 1 ≤ a → 1 ≤ b → Pth ps (a + b) x y → ∃ z, Pth ps a x z ∧ Pth ps b z y
  | 0, _, _, _, h, _, _ => absurd h (by omega)
  | 1, b, x, y, _, hb, h => by
    rw [Nat.add_comm] at h
    cases h with
    | one m => omega
    | cons m t => exact ⟨_, .one m, t⟩
  | a + 2, b, x, y, _, hb, h => by
    have e : a + 2 + b = (a + 1 + b) + 1 := by omega
    rw [e] at h
    generalize hk : a + 1 + b = k at h
    cases h with
    | one m => omega
    | cons m t =>
      subst hk
      obtain ⟨z, h1, h2⟩ := Pth.split (a := a + 1) (by omega) hb t
      exact ⟨z, .cons m h1, h2⟩
theorem close_pth {ps : List (Int × Int)} : ∀ (k : Nat) {l : Nat} {x y : Int}, Pth ps l x y → l ≤ 2 ^ k → (x, y) ∈ closeR k ps
  | 0, l, x, y, h, hl => by
    have := h.pos
    have : l = 1 := by simp at hl; omega
    subst this
    cases h with
    | one m => exact m
    | cons m t => have := t.pos; omega
  | k + 1, l, x, y, h, hl => by
    show (x, y) ∈ stepR (closeR k ps)
    rw [mem_step]
    by_cases h2 : l ≤ 2 ^ k
    · exact .inl (close_pth k h h2)
    · have hp : 1 ≤ 2 ^ k := Nat.one_le_two_pow
      have e : l = 2 ^ k + (l - 2 ^ k) := by omega
      rw [e] at h
      obtain ⟨z, h3, h4⟩ := Pth.split hp (by omega) h
      rw [Nat.pow_succ] at hl
      exact .inr ⟨z, close_pth k h3 (Nat.le_refl _), close_pth k h4 (by omega)⟩
theorem pth_close {ps : List (Int × Int)} : ∀ (k : Nat) {x y : Int}, (x, y) ∈ closeR k ps → ∃ l, Pth ps l x y
  | 0, x, y, h => ⟨1, .one h⟩
  | k + 1, x, y, h => by
    have h : (x, y) ∈ stepR (closeR k ps) := h
    rw [mem_step] at h
    rcases h with h | ⟨b, h1, h2⟩
    · exact pth_close k h
    · obtain ⟨l, g1⟩ := pth_close k h1
      obtain ⟨m, g2⟩ := pth_close k h2
      exact ⟨l + m, g1.app g2⟩
theorem pth_row {L : Int → Int → Prop} (s : StrictO L) {n : Nat} {ps : List (Int × Int)} (hr : Pm.InR n ps) (hL : ∀ x y, (x, y) ∈ ps → L x y) {k : Nat} {x y : Int} (h : Pth ps k x y) :
    L x y ∧ ∃ vs : List Int, vs.length = k ∧ (∀ v ∈ vs, 0 ≤ v ∧ v < n ∧ L x v) ∧ vs.Nodup ∧ 0 ≤ x ∧ x < n := by
  induction h with
  | @one x y m => exact ⟨hL _ _ m, [y], rfl, fun v hv => by
      rw [List.mem_singleton.mp hv]
      have := hr _ m
      exact ⟨this.2.2.1, this.2.2.2, hL _ _ m⟩, by simp, (hr _ m).1, (hr _ m).2.1⟩
  | @cons k x y z m _ ih =>
    obtain ⟨h1, vs, h2, h3, h4, h5⟩ := ih
    have hxy := hL _ _ m
    refine ⟨s.tr _ _ _ hxy h1, y :: vs, by rw [List.length_cons, h2], fun v hv => ?_, List.nodup_cons.mpr ⟨fun hm => s.irr y (h3 y hm).2.2, h4⟩, (hr _ m).1, (hr _ m).2.1⟩
    rcases List.mem_cons.mp hv with rfl | hv
    · exact ⟨h5.1, h5.2, hxy⟩
    · exact ⟨(h3 v hv).1, (h3 v hv).2.1, s.tr _ _ _ hxy (h3 v hv).2.2⟩
theorem pth_short {L : Int → Int → Prop} (s : StrictO L) {n : Nat} {ps : List (Int × Int)} (hr : Pm.InR n ps) (hL : ∀ x y, (x, y) ∈ ps → L x y) {k : Nat} {x y : Int} (h : Pth ps k x y) : k < n := by
  obtain ⟨h1, vs, h2, h3, h4, h5, h6⟩ := pth_row s hr hL h
  have nd : (x :: vs).Nodup := List.nodup_cons.mpr ⟨fun hm => s.irr x (h3 x hm).2.2, h4⟩
  have := nodup_len (m := upI n) nd fun v hv => by
    rcases List.mem_cons.mp hv with rfl | hv
    · exact mem_upI.mpr ⟨h5, h6⟩
    · exact mem_upI.mpr ⟨(h3 v hv).1, (h3 v hv).2.1⟩
  rw [List.length_cons, h2, upI_len] at this
  omega
theorem close_ordr {L : Int → Int → Prop} (s : StrictO L) {n : Nat} (hn : 1 ≤ n ∧ n ≤ 10) {ps : List (Int × Int)} (hr : Pm.InR n ps) (hL : ∀ x y, (x, y) ∈ ps → L x y) : Ordr n (closeR n (srtP ps)) := by
  have hr' : Pm.InR n (srtP ps) := fun q hq => hr q (mem_srt.mp hq)
  have hL' : ∀ x y, (x, y) ∈ srtP ps → L x y := fun x y h => hL x y (mem_srt.mp h)
  refine ⟨by omega, by omega, fun q hq => ?_, ?_, fun x hx => ?_, fun x y z h1 h2 => ?_⟩
  · obtain ⟨l, h⟩ := pth_close n (x := q.1) (y := q.2) hq
    obtain ⟨_, vs, hk, h3, _, h5, h6⟩ := pth_row s hr' hL' h
    have : ∀ {k x y}, Pth (srtP ps) k x y → 0 ≤ y ∧ y < n := fun h => by
      induction h with
      | one m => exact ⟨(hr' _ m).2.2.1, (hr' _ m).2.2.2⟩
      | cons _ _ ih => exact ih
    have := this h
    exact ⟨h5, h6, this.1, this.2⟩
  · obtain ⟨m, rfl⟩ : ∃ m, n = m + 1 := ⟨n - 1, by omega⟩
    exact srt_rise _
  · obtain ⟨l, h⟩ := pth_close n hx
    exact s.irr x (pth_row s hr' hL' h).1
  · obtain ⟨k, g1⟩ := pth_close n h1
    obtain ⟨l, g2⟩ := pth_close n h2
    have g := g1.app g2
    have := pth_short s hr' hL' g
    have h2n : n < 2 ^ n := Nat.lt_two_pow_self
    exact close_pth n g (by omega)
/-- who is before whom, by stretches or by a row -/
def Lw (w : Int) (bs es nm : List Int) (x y : Int) : Prop :=
  if w = 0 then 0 ≤ x ∧ 0 ≤ y ∧ ∃ e b, es[x.toNat]? = some e ∧ bs[y.toNat]? = some b ∧ e < b
  else ∃ i j : Nat, nm[i]? = some x ∧ nm[j]? = some y ∧ i < j
theorem nodup_get {nm : List Int} (nd : nm.Nodup) {i j : Nat} {x : Int} (h1 : nm[i]? = some x) (h2 : nm[j]? = some x) : i = j := by
  obtain ⟨hi, e1⟩ := List.getElem?_eq_some_iff.mp h1
  obtain ⟨hj, e2⟩ := List.getElem?_eq_some_iff.mp h2
  exact (List.getElem_inj nd).mp (e1.trans e2.symm)
theorem Lw_str {w : Int} {bs es nm : List Int} (hbe : ∀ (i : Nat) x y, bs[i]? = some x → es[i]? = some y → x ≤ y ∧ y < 10) (hl : es.length = bs.length) (nd : nm.Nodup) : StrictO (Lw w bs es nm) := by
  unfold Lw
  by_cases h : w = 0
  · simp only [h, if_true]
    refine ⟨fun x ⟨_, _, e, b, h1, h2, h3⟩ => ?_, fun x y z ⟨p1, p2, e, b, h1, h2, h3⟩ ⟨p3, p4, e', b', h4, h5, h6⟩ => ⟨p1, p4, e, b', h1, h5, ?_⟩⟩
    · have := hbe _ _ _ h2 h1; omega
    · have := hbe _ _ _ h2 h4; omega
  · simp only [h, if_false]
    refine ⟨fun x ⟨i, j, h1, h2, h3⟩ => ?_, fun x y z ⟨i, j, h1, h2, h3⟩ ⟨i', j', h4, h5, h6⟩ => ⟨i, j', h1, h5, ?_⟩⟩
    · have := nodup_get nd h1 h2; omega
    · have := nodup_get nd h2 h4; omega
def OE (a b : Int) (most : Int) (n : Nat) (v3 : Option Vl) (nm : List Int) (ps : List (Int × Int)) (w th : Int) (bs es : List Int) (v10 v11 : Option Vl) : Mp.Env :=
  [some (.own (.lst [.int a, .int b])), some (.d (.int most)), some (.d (.int n)), v3, some (.d (.list (IL nm))), some (.own (.lst (PL ps))), some (.d (.int w)), some (.d (.int th)), some (.d (.list (IL bs))), some (.own (.lst (IL es))), v10, v11, none, none]
theorem upI_at {n i : Nat} {x : D} (hx : (IL (upI n))[i]? = some x) : i < n ∧ x = .int (i : Int) := by
  have hi : i < n := by
    have := (List.getElem?_eq_some_iff.mp hx).1
    rw [IL_len, upI_len] at this
    exact this
  refine ⟨hi, ?_⟩
  unfold IL at hx
  rw [List.getElem?_map, upI_get hi] at hx
  exact (Option.some.inj hx).symm
theorem tupleText_le (ts : List Str) : (tupleText ts).length ≤ piled ts + 3 := by
  unfold tupleText
  rw [strLen_append, strLen_append]
  have e1 : ((("(" : String) : Str)).length = 1 := rfl
  have e3 : (((if ts.length == 1 then ",)" else ")" : String) : Str)).length ≤ 2 := by split <;> decide
  rw [e1]
  cases ts with
  | nil => have : (Str.join ", " []).length = 0 := rfl
           omega
  | cons t r => have := join_length_add (t :: r) (by simp)
                omega
theorem listText_le (ts : List Str) : (listText ts).length ≤ piled ts + 2 := by
  unfold listText
  rw [strLen_append]
  have e1 : ((("]" : String) : Str)).length = 1 := rfl
  rw [e1]
  cases ts with
  | nil => show (("[" : String) : Str).length + 1 ≤ _
           have : (("[" : String) : Str).length = 1 := rfl
           omega
  | cons t r =>
    show (textFrom 1 (("[" : Str) ++ (if 0 > 0 then ", " else "" : String) ++ t) r).length + 1 ≤ _
    rw [textFrom_length_pos r 1 _ (by omega), strLen_append, strLen_append, piled_cons]
    have e2 : (("[" : String) : Str).length = 1 := rfl
    have e3 : (((if 0 > 0 then ", " else "" : String) : String) : Str).length = 0 := rfl
    rw [e2, e3]
    omega
theorem int_len {i : Int} (h : 0 ≤ i ∧ i < 16) : (PyData.shown (.int i)).length ≤ 2 := by
  obtain ⟨k, rfl⟩ : ∃ k : Nat, i = k := ⟨i.toNat, by omega⟩
  have hk : k < 16 := by omega
  have : ∀ k : Nat, k < 16 → ((toString ((k : Nat) : Int) : String) : Str).length ≤ 2 := by decide +kernel
  exact this k hk
theorem pr_len {a b : Int} (ha : 0 ≤ a ∧ a < 16) (hb : 0 ≤ b ∧ b < 16) : (PyData.shown (pr (a, b))).length ≤ 11 := by
  have h1 := int_len ha
  have h2 := int_len hb
  have h3 := tupleText_le [PyData.shown (.int a), PyData.shown (.int b)]
  rw [piled_cons, piled_cons, piled_nil] at h3
  show (tupleText [PyData.shown (.int a), PyData.shown (.int b)]).length ≤ 11
  omega
theorem piled_PL : ∀ {ps : List (Int × Int)}, Pm.InR 10 ps → piled (PyData.shownAll (PL ps)) ≤ 13 * ps.length
  | [], _ => by show piled [] ≤ _; rw [piled_nil]; omega
  | (a, b) :: ps, h => by
    have ih := piled_PL (ps := ps) fun q hq => h q (List.mem_cons_of_mem _ hq)
    obtain ⟨h1, h2, h3, h4⟩ := h (a, b) List.mem_cons_self
    simp only at h1 h2 h3 h4
    have := pr_len (a := a) (b := b) (by omega) (by omega)
    show piled (PyData.shown (pr (a, b)) :: PyData.shownAll (PL ps)) ≤ _
    rw [piled_cons, List.length_cons]
    omega
theorem O_len {n : Int} {ps : List (Int × Int)} (h : Ordr n ps) : (PyData.shown (O n ps)).length ≤ 1400 := by
  have hl := h.len
  have h0 := h.lo
  have h1 := h.hi
  have i1 := int_len (i := n) (by omega)
  have p1 := piled_PL (ps := ps) fun q hq => by have := h.inr q hq; omega
  have t1 := tupleText_le (PyData.shownAll (PL ps))
  have t2 := tupleText_le [PyData.shown (.str "order"), PyData.shown (.int n), PyData.shown (.tuple (PL ps))]
  rw [piled_cons, piled_cons, piled_cons, piled_nil] at t2
  have e1 : (PyData.shown (.str "order")).length = 7 := by decide +kernel
  have e2 : PyData.shown (.tuple (PL ps)) = tupleText (PyData.shownAll (PL ps)) := by simp only [PyData.shown]
  have e3 : PyData.shown (O n ps) = tupleText [PyData.shown (.str "order"), PyData.shown (.int n), PyData.shown (.tuple (PL ps))] := by simp only [O, PyData.shown, PyData.shownAll]
  rw [e3]
  rw [e2] at t2 ⊢
  omega
theorem showable_PL : ∀ {ps : List (Int × Int)}, Pm.InR 10 ps → PyData.showableAll (PL ps) = true
  | [], _ => rfl
  | (a, b) :: ps, h => by
    have ih := showable_PL (ps := ps) fun q hq => h q (List.mem_cons_of_mem _ hq)
    obtain ⟨h1, h2, h3, h4⟩ := h (a, b) List.mem_cons_self
    simp only at h1 h2 h3 h4
    have big : ∀ i : Int, 0 ≤ i → i < 10 → i.natAbs.log2 < 1920 := fun i a b => by
      have : i.natAbs.log2 ≤ i.natAbs := Nat.log2_le_self _
      omega
    show PyData.showableAll (pr (a, b) :: PL ps) = true
    simp [PyData.showableAll, pr, PyData.showable, ih, big a h1 h2, big b h3 h4]
theorem noDict_PL : ∀ ps : List (Int × Int), PyData.hasDictAll (PL ps) = false
  | [] => rfl
  | (a, b) :: ps => by
    show PyData.hasDictAll (pr (a, b) :: PL ps) = false
    simp [PyData.hasDictAll, pr, PyData.hasDict, noDict_PL ps]
theorem depth_PL : ∀ ps : List (Int × Int), PyData.depthAll (PL ps) ≤ 3
  | [] => by simp [PL, PyData.depthAll]
  | (a, b) :: ps => by
    have ih := depth_PL ps
    show PyData.depthAll (pr (a, b) :: PL ps) ≤ 3
    simp [PyData.depthAll, pr, PyData.depth]
    omega
theorem O_show {n : Int} {ps : List (Int × Int)} (h : Ordr n ps) : PyData.showable (O n ps) = true ∧ PyData.hasDict (O n ps) = false ∧ PyData.depth (O n ps) ≤ 10 := by
  have h0 := h.lo
  have h1 := h.hi
  have s := showable_PL (ps := ps) fun q hq => by have := h.inr q hq; omega
  have d := noDict_PL ps
  have e := depth_PL ps
  have big : n.natAbs.log2 < 1920 := by
    have : n.natAbs.log2 ≤ n.natAbs := Nat.log2_le_self _
    omega
  unfold O
  refine ⟨by simp [PyData.showable, PyData.showableAll, s, big], by simp [PyData.hasDict, PyData.hasDictAll, d], ?_⟩
  simp [PyData.depth, PyData.depthAll]
  omega
/-- the text of an order -/
def So (n : Int) (ps : List (Int × Int)) : Str := PyData.shown (O n ps)
def So2 (n : Int) (ps qs : List (Int × Int)) : Str := PyData.shown (.list [O n ps, O n qs])
theorem gRepr_O {n : Int} {ps : List (Int × Int)} (h : Ordr n ps) : gReprD [O n ps] = some (.d (.str (So n ps))) := by
  obtain ⟨h1, h2, h3⟩ := O_show h
  have h4 := O_len h
  have h5 : PyData.depth (O n ps) < 200 := by omega
  have h6 : (PyData.shown (O n ps)).length ≤ sizeLine := by rw [sizeLine_eq]; omega
  unfold So
  unfold gReprD reprOk
  simp only [h1, h2, decide_eq_true h5, decide_eq_true h6, Bool.not_false, Bool.true_or, Bool.and_self, if_true]
theorem gRepr_O2 {n : Int} {ps qs : List (Int × Int)} (h : Ordr n ps) (h' : Ordr n qs) : gReprD [.list [O n ps, O n qs]] = some (.d (.str (So2 n ps qs))) := by
  obtain ⟨h1, h2, h3⟩ := O_show h
  have h4 := O_len h
  obtain ⟨k1, k2, k3⟩ := O_show h'
  have k4 := O_len h'
  have t := listText_le [PyData.shown (O n ps), PyData.shown (O n qs)]
  rw [piled_cons, piled_cons, piled_nil] at t
  have e : PyData.shown (.list [O n ps, O n qs]) = listText [PyData.shown (O n ps), PyData.shown (O n qs)] := by simp only [PyData.shown, PyData.shownAll]
  have a1 : PyData.showable (.list [O n ps, O n qs]) = true := by simp [PyData.showable, PyData.showableAll, h1, k1]
  have a2 : PyData.hasDict (.list [O n ps, O n qs]) = false := by simp [PyData.hasDict, PyData.hasDictAll, h2, k2]
  have a3 : PyData.depth (.list [O n ps, O n qs]) < 200 := by simp [PyData.depth, PyData.depthAll]; omega
  have a4 : (PyData.shown (.list [O n ps, O n qs])).length ≤ sizeLine := by rw [e, sizeLine_eq]; omega
  unfold So2
  unfold gReprD reprOk
  simp only [a1, a2, decide_eq_true a3, decide_eq_true a4, Bool.not_false, Bool.true_or, Bool.and_self, if_true]
theorem gNe_str (x : Str) : gNe (.str x) (.str x) = some (.d (.bool false)) := by simp [gNe, PyData.plain, shal, PyData.depth, PyData.eqv]
theorem gEq_str (x : Str) : gEq (.str x) (.str x) = some (.d (.bool true)) := by simp [gEq, PyData.plain, shal, PyData.depth, PyData.eqv]
theorem eqv_PL : ∀ ps : List (Int × Int), PyData.eqvAll (PL ps) (PL ps) = true
  | [] => rfl
  | p :: ps => by
    show PyData.eqvAll (pr p :: PL ps) (pr p :: PL ps) = true
    have : PyData.eqv (pr p) (pr p) = true := by rw [pr_eqv]; simp
    simp [PyData.eqvAll, this, eqv_PL ps]
theorem plain_O (n : Int) (ps : List (Int × Int)) : PyData.plain (O n ps) = true := by
  have := PL_plain ps
  simp [O, PyData.plain, PyData.plainAll, this]
theorem shal_O (n : Int) (ps : List (Int × Int)) : shal (O n ps) = true := by
  have := depth_PL ps
  unfold shal O
  simp [PyData.depth, PyData.depthAll]
  omega
theorem eqv_O (n : Int) (ps : List (Int × Int)) : PyData.eqv (O n ps) (O n ps) = true := by
  have := eqv_PL ps
  simp [O, PyData.eqv, PyData.eqvAll, this]
theorem gEq_O (n : Int) (ps : List (Int × Int)) : gEq (O n ps) (O n ps) = some (.d (.bool true)) := by
  unfold gEq
  rw [plain_O, shal_O, eqv_O]
  rfl
theorem gNe_O (n : Int) (ps : List (Int × Int)) : gNe (O n ps) (O n ps) = some (.d (.bool false)) := by
  unfold gNe
  rw [plain_O, shal_O, eqv_O]
  rfl
theorem leD_pr (p q : Int × Int) : leD (pr q) (pr p) = !decide (p.1 < q.1 ∨ (p.1 = q.1 ∧ p.2 < q.2)) := by
  show leD (tupI [q.1, q.2]) (tupI [p.1, p.2]) = _
  rw [leD_tup]
  congr 1
  refine decide_eq_decide.mpr ?_
  rw [List.cons_lt_cons_iff, List.cons_lt_cons_iff]
  constructor
  · rintro (h | ⟨h1, h2 | ⟨h2, h3⟩⟩)
    · exact .inl h
    · exact .inr ⟨h1, h2⟩
    · exact absurd h3 (List.lt_irrefl _)
  · rintro (h | ⟨h1, h2⟩)
    · exact .inl h
    · exact .inr ⟨h1, .inl h2⟩
def lexP (p q : Int × Int) : Prop := p.1 < q.1 ∨ (p.1 = q.1 ∧ p.2 < q.2)
theorem rise_lex {ps : List (Int × Int)} (h : ps.Pairwise lexP) : Rise ps := by
  unfold Rise PL
  refine List.pairwise_map.mpr (h.imp fun {p q} hpq => ?_)
  rw [leD_pr]
  rw [decide_eq_true (show p.1 < q.1 ∨ (p.1 = q.1 ∧ p.2 < q.2) from hpq)]
  rfl
structure Sm (n : Int) (ps : List (Int × Int)) : Prop where
  lo : 0 ≤ n
  hi : n ≤ 10
  inr : Pm.InR 10 ps
  len : ps.length ≤ 100
theorem Ordr.sm {n : Int} {ps : List (Int × Int)} (h : Ordr n ps) : Sm n ps := ⟨by have := h.lo; omega, h.hi, fun q hq => by have := h.inr q hq; have := h.hi; omega, h.len⟩
theorem Sm.shown {n : Int} {ps : List (Int × Int)} (h : Sm n ps) : (PyData.shown (O n ps)).length ≤ 1400 := by
  have hl := h.len
  have h0 := h.lo
  have h1 := h.hi
  have i1 := int_len (i := n) (by omega)
  have p1 := piled_PL h.inr
  have t1 := tupleText_le (PyData.shownAll (PL ps))
  have t2 := tupleText_le [PyData.shown (.str "order"), PyData.shown (.int n), PyData.shown (.tuple (PL ps))]
  rw [piled_cons, piled_cons, piled_cons, piled_nil] at t2
  have e1 : (PyData.shown (.str "order")).length = 7 := by decide +kernel
  have e2 : PyData.shown (.tuple (PL ps)) = tupleText (PyData.shownAll (PL ps)) := by simp only [PyData.shown]
  have e3 : PyData.shown (O n ps) = tupleText [PyData.shown (.str "order"), PyData.shown (.int n), PyData.shown (.tuple (PL ps))] := by simp only [O, PyData.shown, PyData.shownAll]
  rw [e3]
  rw [e2] at t2 ⊢
  omega
theorem Sm.show_ {n : Int} {ps : List (Int × Int)} (h : Sm n ps) : PyData.showable (O n ps) = true ∧ PyData.hasDict (O n ps) = false ∧ PyData.depth (O n ps) ≤ 10 := by
  have h0 := h.lo
  have h1 := h.hi
  have s := showable_PL h.inr
  have d := noDict_PL ps
  have e := depth_PL ps
  have big : n.natAbs.log2 < 1920 := by
    have : n.natAbs.log2 ≤ n.natAbs := Nat.log2_le_self _
    omega
  unfold O
  refine ⟨by simp [PyData.showable, PyData.showableAll, s, big], by simp [PyData.hasDict, PyData.hasDictAll, d], ?_⟩
  simp [PyData.depth, PyData.depthAll]
  omega
/-- orders as data -/
def OL (os : List (Int × List (Int × Int))) : List D := os.map fun q => O q.1 q.2
def SoL (os : List (Int × List (Int × Int))) : Str := PyData.shown (.list (OL os))
theorem OL_piled : ∀ {os : List (Int × List (Int × Int))}, (∀ q ∈ os, Sm q.1 q.2) → piled (PyData.shownAll (OL os)) ≤ 1402 * os.length ∧ PyData.showableAll (OL os) = true ∧ PyData.hasDictAll (OL os) = false ∧ PyData.depthAll (OL os) ≤ 12
  | [], _ => by refine ⟨?_, rfl, rfl, ?_⟩ <;> simp [OL, PyData.shownAll, piled, PyData.depthAll]
  | q :: os, h => by
    obtain ⟨i1, i2, i3, i4⟩ := OL_piled (os := os) fun r hr => h r (List.mem_cons_of_mem _ hr)
    have hq := h q List.mem_cons_self
    have k1 := hq.shown
    obtain ⟨k2, k3, k4⟩ := hq.show_
    show piled (PyData.shown (O q.1 q.2) :: PyData.shownAll (OL os)) ≤ _ ∧ PyData.showableAll (O q.1 q.2 :: OL os) = true ∧ PyData.hasDictAll (O q.1 q.2 :: OL os) = false ∧ PyData.depthAll (O q.1 q.2 :: OL os) ≤ 12
    rw [piled_cons, List.length_cons]
    refine ⟨by omega, ?_, ?_, ?_⟩
    · unfold PyData.showableAll
      rw [k2, i2]
      rfl
    · unfold PyData.hasDictAll
      rw [k3, i3]
      rfl
    · unfold PyData.depthAll
      omega
theorem gRepr_OL {os : List (Int × List (Int × Int))} (h : ∀ q ∈ os, Sm q.1 q.2) (hz : os.length ≤ 1000) : gReprD [.list (OL os)] = some (.d (.str (SoL os))) := by
  obtain ⟨i1, i2, i3, i4⟩ := OL_piled h
  have t := listText_le (PyData.shownAll (OL os))
  have e : PyData.shown (.list (OL os)) = listText (PyData.shownAll (OL os)) := by simp only [PyData.shown]
  have a1 : PyData.showable (.list (OL os)) = true := by unfold PyData.showable; exact i2
  have a2 : PyData.hasDict (.list (OL os)) = false := by unfold PyData.hasDict; exact i3
  have a3 : PyData.depth (.list (OL os)) < 200 := by unfold PyData.depth; omega
  have a4 : (PyData.shown (.list (OL os))).length ≤ sizeLine := by
    rw [e, sizeLine_eq]
    have : 1402 * os.length ≤ 1402 * 1000 := Nat.mul_le_mul_left _ hz
    omega
  unfold SoL
  unfold gReprD reprOk
  simp only [a1, a2, decide_eq_true a3, decide_eq_true a4, Bool.not_false, Bool.true_or, Bool.and_self, if_true]
theorem gRepr_2 {n m : Int} {ps qs : List (Int × Int)} (h : Sm n ps) (h' : Sm m qs) : gReprD [.list [O n ps, O m qs]] = some (.d (.str (SoL [(n, ps), (m, qs)]))) :=
  gRepr_OL (os := [(n, ps), (m, qs)]) (fun q hq => by simp at hq; rcases hq with rfl | rfl <;> assumption) (by simp)
theorem gRepr_3 {n m k : Int} {ps qs rs : List (Int × Int)} (h : Sm n ps) (h' : Sm m qs) (h2 : Sm k rs) : gReprD [.list [O n ps, O m qs, O k rs]] = some (.d (.str (SoL [(n, ps), (m, qs), (k, rs)]))) :=
  gRepr_OL (os := [(n, ps), (m, qs), (k, rs)]) (fun q hq => by simp at hq; rcases hq with rfl | rfl | rfl <;> assumption) (by simp)
end My
set_option maxHeartbeats 4000000
namespace My
open PySem PySem.Spec PyProof.Rows L2 Mp RZ
def top (i : Nat) : Stmt := PySem.Challenge.pw_toldahead_k12_whole_neighbours_ahead_beh.main.body.getD i (.Pass ⟨0, 0, 0, 0⟩)
section
variable {P : Program} {w : World} {K : PySem.W.Frag} {mg : Str → Option Value} {base : Heap}
abbrev s_is_integer : Stmt := top 1
def N_is_integer : List Str := ["value"]
def P_is_integer : List Str := ["value"]
def m_is_integer : MS := (mRet ((mAnd (mIsA ["int"] (mV 0)) (mNot (mIsA ["bool"] (mV 0))))))
def F_is_integer : Fn := runF 1 [0] m_is_integer
theorem sc_is_integer : FnScope N_is_integer P_is_integer (defScope s_is_integer) := ⟨rfl, rfl, rfl, by decide +kernel, rfl, by decide +kernel, by decide +kernel⟩
theorem ok_is_integer (bt : Bt mg) {f : Addr} {fd : FuncData} (F : FunD K "is_integer" "is_integer" (defArgs s_is_integer) (defBody s_is_integer) (defScope s_is_integer) [] [] f fd) : FnG P w K mg base 8 f fd P_is_integer (spF K 1 F_is_integer) :=
  fnG_of F sc_is_integer rfl fun cdv A fr s H E hr hgd =>
    have rm := rm_of hr hgd
    have S_nd := sc_is_integer.nd
    (pss_mone (ps_mret (pe_mand (pe_mIsA1 rfl bt.isinstance (pe_mV (i := 0) rfl (by (first | exact Or.inl rfl | exact Or.inr (Or.inl rfl) | exact Or.inr (Or.inr rfl))) (by decide) (by decide)) (pe_ty rfl bt.int (by decide +kernel) (by decide) (by decide)) rfl rfl rfl) (pe_mone (pe_mnot (pe_mIsA1 rfl bt.isinstance (pe_mV (i := 0) rfl (by (first | exact Or.inl rfl | exact Or.inr (Or.inl rfl) | exact Or.inr (Or.inr rfl))) (by decide) (by decide)) (pe_ty rfl bt.bool (by decide +kernel) (by decide) (by decide)) rfl rfl rfl))))))
theorem cal_is_integer (bt : Bt mg) {f : Addr} {fd : FuncData} (F : FunD K "is_integer" "is_integer" (defArgs s_is_integer) (defBody s_is_integer) (defScope s_is_integer) [] [] f fd) (hm : mg "is_integer" = some (.ref f)) : CalG P w K mg base 8 "is_integer" P_is_integer F_is_integer :=
  ⟨f, fd, ok_is_integer bt F, hm, F.kp, F.bindsN fun _ _ _ _ _ _ us hl => match us, hl with | [_], _ => rfl⟩
abbrev s_is_within : Stmt := top 2
def N_is_within : List Str := ["value", "least", "most"]
def P_is_within : List Str := ["value", "least", "most"]
def m_is_within : MS := (mRet ((mAnd (mCall F_is_integer [(mV 0)]) (mCh gLe gLe (mV 1) (mV 0) (mV 2)))))
def F_is_within : Fn := runF 3 [0, 1, 2] m_is_within
theorem sc_is_within : FnScope N_is_within P_is_within (defScope s_is_within) := ⟨rfl, rfl, rfl, by decide +kernel, rfl, by decide +kernel, by decide +kernel⟩
theorem ok_is_within (bt : Bt mg) (c_is_integer : CalG P w K mg base 8 "is_integer" P_is_integer F_is_integer) {f : Addr} {fd : FuncData} (F : FunD K "is_within" "is_within" (defArgs s_is_within) (defBody s_is_within) (defScope s_is_within) [] [] f fd) : FnG P w K mg base 9 f fd P_is_within (spF K 3 F_is_within) :=
  fnG_of F sc_is_within rfl fun cdv A fr s H E hr hgd =>
    have rm := rm_of hr hgd
    have S_nd := sc_is_within.nd
    (pss_mone (ps_mret (pe_mand (pe_mCall c_is_integer hr (by decide) hgd rfl rfl (pa_mcons (pe_mV (i := 0) rfl (by (first | exact Or.inl rfl | exact Or.inr (Or.inl rfl) | exact Or.inr (Or.inr rfl))) (by decide) (by decide)) pa_mnil rfl) (by decide) rfl rfl) (pe_mone (pe_mch (og_le rm) (og_le rm) (pe_mV (i := 1) rfl (by (first | exact Or.inl rfl | exact Or.inr (Or.inl rfl) | exact Or.inr (Or.inr rfl))) (by decide) (by decide)) (pe_mV (i := 0) rfl (by (first | exact Or.inl rfl | exact Or.inr (Or.inl rfl) | exact Or.inr (Or.inr rfl))) (by decide) (by decide)) (pe_mV (i := 2) rfl (by (first | exact Or.inl rfl | exact Or.inr (Or.inl rfl) | exact Or.inr (Or.inr rfl))) (by decide) (by decide)) rfl)))))
theorem cal_is_within (bt : Bt mg) (c_is_integer : CalG P w K mg base 8 "is_integer" P_is_integer F_is_integer) {f : Addr} {fd : FuncData} (F : FunD K "is_within" "is_within" (defArgs s_is_within) (defBody s_is_within) (defScope s_is_within) [] [] f fd) (hm : mg "is_within" = some (.ref f)) : CalG P w K mg base 9 "is_within" P_is_within F_is_within :=
  ⟨f, fd, ok_is_within bt c_is_integer F, hm, F.kp, F.bindsN fun _ _ _ _ _ _ us hl => match us, hl with | [_, _, _], _ => rfl⟩
abbrev s_is_list : Stmt := top 3
def N_is_list : List Str := ["value"]
def P_is_list : List Str := ["value"]
def m_is_list : MS := (mRet (mIsA ["list", "tuple"] (mV 0)))
def F_is_list : Fn := runF 1 [0] m_is_list
theorem sc_is_list : FnScope N_is_list P_is_list (defScope s_is_list) := ⟨rfl, rfl, rfl, by decide +kernel, rfl, by decide +kernel, by decide +kernel⟩
theorem ok_is_list (bt : Bt mg) {f : Addr} {fd : FuncData} (F : FunD K "is_list" "is_list" (defArgs s_is_list) (defBody s_is_list) (defScope s_is_list) [] [] f fd) : FnG P w K mg base 8 f fd P_is_list (spF K 1 F_is_list) :=
  fnG_of F sc_is_list rfl fun cdv A fr s H E hr hgd =>
    have rm := rm_of hr hgd
    have S_nd := sc_is_list.nd
    (pss_mone (ps_mret (pe_mIsAT rfl bt.isinstance (pe_mV (i := 0) rfl (by (first | exact Or.inl rfl | exact Or.inr (Or.inl rfl) | exact Or.inr (Or.inr rfl))) (by decide) (by decide)) (pa_cons (pe_ty rfl bt.list (by decide +kernel) (by decide) (by decide)) (pa_cons (pe_ty rfl bt.tuple (by decide +kernel) (by decide) (by decide)) pa_nil rfl) rfl) (hcs_cons (hcs_cons (fun _ _ _ q => q))) (by decide) rfl rfl rfl)))
theorem cal_is_list (bt : Bt mg) {f : Addr} {fd : FuncData} (F : FunD K "is_list" "is_list" (defArgs s_is_list) (defBody s_is_list) (defScope s_is_list) [] [] f fd) (hm : mg "is_list" = some (.ref f)) : CalG P w K mg base 8 "is_list" P_is_list F_is_list :=
  ⟨f, fd, ok_is_list bt F, hm, F.kp, F.bindsN fun _ _ _ _ _ _ us hl => match us, hl with | [_], _ => rfl⟩
abbrev s_is_tuple : Stmt := top 4
def N_is_tuple : List Str := ["value", "many"]
def P_is_tuple : List Str := ["value", "many"]
def m_is_tuple : MS := (mRet ((mAnd (mIsA ["tuple"] (mV 0)) (mOp2 gEq (mLen (mV 0)) (mV 1)))))
def F_is_tuple : Fn := runF 2 [0, 1] m_is_tuple
theorem sc_is_tuple : FnScope N_is_tuple P_is_tuple (defScope s_is_tuple) := ⟨rfl, rfl, rfl, by decide +kernel, rfl, by decide +kernel, by decide +kernel⟩
theorem ok_is_tuple (bt : Bt mg) {f : Addr} {fd : FuncData} (F : FunD K "is_tuple" "is_tuple" (defArgs s_is_tuple) (defBody s_is_tuple) (defScope s_is_tuple) [] [] f fd) : FnG P w K mg base 8 f fd P_is_tuple (spF K 2 F_is_tuple) :=
  fnG_of F sc_is_tuple rfl fun cdv A fr s H E hr hgd =>
    have rm := rm_of hr hgd
    have S_nd := sc_is_tuple.nd
    (pss_mone (ps_mret (pe_mand (pe_mIsA1 rfl bt.isinstance (pe_mV (i := 0) rfl (by (first | exact Or.inl rfl | exact Or.inr (Or.inl rfl) | exact Or.inr (Or.inr rfl))) (by decide) (by decide)) (pe_ty rfl bt.tuple (by decide +kernel) (by decide) (by decide)) rfl rfl rfl) (pe_mone (pe_mcmp (og_eq rm) (by first | rfl | exact nobehind _ (by decide) (by decide)) (pe_mLen rfl bt.len (pe_mV (i := 0) rfl (by (first | exact Or.inl rfl | exact Or.inr (Or.inl rfl) | exact Or.inr (Or.inr rfl))) (by decide) (by decide)) rfl rfl) (pe_mV (i := 1) rfl (by (first | exact Or.inl rfl | exact Or.inr (Or.inl rfl) | exact Or.inr (Or.inr rfl))) (by decide) (by decide)))))))
theorem cal_is_tuple (bt : Bt mg) {f : Addr} {fd : FuncData} (F : FunD K "is_tuple" "is_tuple" (defArgs s_is_tuple) (defBody s_is_tuple) (defScope s_is_tuple) [] [] f fd) (hm : mg "is_tuple" = some (.ref f)) : CalG P w K mg base 8 "is_tuple" P_is_tuple F_is_tuple :=
  ⟨f, fd, ok_is_tuple bt F, hm, F.kp, F.bindsN fun _ _ _ _ _ _ us hl => match us, hl with | [_, _], _ => rfl⟩
abbrev s_is_pair_of : Stmt := top 15
def N_is_pair_of : List Str := ["runners", "value", "one"]
def P_is_pair_of : List Str := ["runners", "value"]
def is_pair_of_c1 : M := mLc 3 (mIt (mV 1)) (gNm (outs 3 [2]) 2) mYes (mCall F_is_within [(mV 2), (mK (.int 0)), (mOp2 gSub (mV 0) (mK (.int 1)))]) [2]
def m_is_pair_of : MS := (mRet ((mAnd (mCall F_is_tuple [(mV 1), (mK (.int 2))]) (mAnd (mB gAll [(is_pair_of_c1)]) (mOp2 gNe (mIxA (mV 1) (mK (.int 0))) (mIxA (mV 1) (mK (.int 1))))))))
def F_is_pair_of : Fn := runF 3 [0, 1] m_is_pair_of
theorem sc_is_pair_of : FnScope N_is_pair_of P_is_pair_of (defScope s_is_pair_of) := ⟨rfl, rfl, rfl, by decide +kernel, rfl, by decide +kernel, by decide +kernel⟩
theorem ok_is_pair_of (bt : Bt mg) (c_is_tuple : CalG P w K mg base 8 "is_tuple" P_is_tuple F_is_tuple) (c_is_within : CalG P w K mg base 9 "is_within" P_is_within F_is_within) {f : Addr} {fd : FuncData} (F : FunD K "is_pair_of" "is_pair_of" (defArgs s_is_pair_of) (defBody s_is_pair_of) (defScope s_is_pair_of) [] [] f fd) : FnG P w K mg base 10 f fd P_is_pair_of (spF K 2 F_is_pair_of) :=
  fnG_of F sc_is_pair_of rfl fun cdv A fr s H E hr hgd =>
    have rm := rm_of hr hgd
    have S_nd := sc_is_pair_of.nd
    (pss_mone (ps_mret (pe_mand (pe_mCall c_is_tuple hr (by decide) hgd rfl rfl (pa_mcons (pe_mV (i := 1) rfl (by (first | exact Or.inl rfl | exact Or.inr (Or.inl rfl) | exact Or.inr (Or.inr rfl))) (by decide) (by decide)) (pa_mcons pe_mint pa_mnil rfl) rfl) (by decide) rfl rfl) (pe_mand (pe_mB (cg_all rfl) rfl bt.all (by decide +kernel) (pa_mcons (pe_mLc (n := 3) (own := [("one", 2)]) rfl S_nd (pi_mIt (pe_mV (i := 1) rfl (by (first | exact Or.inl rfl | exact Or.inr (Or.inl rfl) | exact Or.inr (Or.inr rfl))) (by decide) (by decide))) (blkOk_by (by kernel_rfl)) (fun _ _ _ _ _ => (pg_mname (i := 2) S_nd rfl (by (first | exact Or.inl rfl | exact Or.inr rfl)) (by (first | exact Or.inr rfl | exact Or.inl rfl)))) (fun _ _ _ _ _ => pts_mnil) (fun _ _ _ _ _ => (pe_mCall c_is_within hr (by decide) hgd rfl rfl (pa_mcons (pe_mV (i := 2) rfl (by (first | exact Or.inl rfl | exact Or.inr (Or.inl rfl) | exact Or.inr (Or.inr rfl))) (by decide) (by decide)) (pa_mcons pe_mint (pa_mcons (pe_mbin og_sub (pe_mV (i := 0) rfl (by (first | exact Or.inl rfl | exact Or.inr (Or.inl rfl) | exact Or.inr (Or.inr rfl))) (by decide) (by decide)) pe_mint) pa_mnil rfl) rfl) rfl) (by decide) rfl rfl)) (fun _ => rfl)) pa_mnil rfl) (by decide) (by decide) rfl rfl) (pe_mone (pe_mcmp (og_ne rm) (by first | rfl | exact nobehind _ (by decide) (by decide)) (pe_mIxA rm (pe_mV (i := 1) rfl (by (first | exact Or.inl rfl | exact Or.inr (Or.inl rfl) | exact Or.inr (Or.inr rfl))) (by decide) (by decide)) pe_mint (fun _ _ => rfl)) (pe_mIxA rm (pe_mV (i := 1) rfl (by (first | exact Or.inl rfl | exact Or.inr (Or.inl rfl) | exact Or.inr (Or.inr rfl))) (by decide) (by decide)) pe_mint (fun _ _ => rfl))))))))
theorem cal_is_pair_of (bt : Bt mg) (c_is_tuple : CalG P w K mg base 8 "is_tuple" P_is_tuple F_is_tuple) (c_is_within : CalG P w K mg base 9 "is_within" P_is_within F_is_within) {f : Addr} {fd : FuncData} (F : FunD K "is_pair_of" "is_pair_of" (defArgs s_is_pair_of) (defBody s_is_pair_of) (defScope s_is_pair_of) [] [] f fd) (hm : mg "is_pair_of" = some (.ref f)) : CalG P w K mg base 10 "is_pair_of" P_is_pair_of F_is_pair_of :=
  ⟨f, fd, ok_is_pair_of bt c_is_tuple c_is_within F, hm, F.kp, F.bindsN fun _ _ _ _ _ _ us hl => match us, hl with | [_, _], _ => rfl⟩
abbrev s_is_closed : Stmt := top 16
def N_is_closed : List Str := ["pairs", "a", "b", "c", "d"]
def P_is_closed : List Str := ["pairs"]
def is_closed_c1 : M := mLc 5 (mIt (mV 0)) (gTp 2 (gs1 (gNm (outs 5 [3, 4]) 3) (gs1 (gNm (outs 5 [3, 4]) 4) gs0))) mYes ((mAnd (mOp2 gEq (mV 2) (mV 3)) (mOp2 gNotInA (mTup [(mD (mV 1)), (mD (mV 4))]) (mV 0)))) [3, 4]
def is_closed_b1 : MS := (mSeq (mIfS (mOp2 gInA (mTup [(mD (mV 2)), (mD (mV 1))]) (mV 0)) (mRet (mK (.bool false))) mSkip)
    (mIfS (mB gAny [(is_closed_c1)]) (mRet (mK (.bool false))) mSkip))
def is_closed_l1 : MS := mFor (mIt (mV 0)) (gTp 2 (gs1 (gNm [0] 1) (gs1 (gNm [0] 2) gs0))) is_closed_b1
def m_is_closed : MS := (mSeq (is_closed_l1)
    (mRet (mK (.bool true))))
def F_is_closed : Fn := runF 5 [0] m_is_closed
theorem sc_is_closed : FnScope N_is_closed P_is_closed (defScope s_is_closed) := ⟨rfl, rfl, rfl, by decide +kernel, rfl, by decide +kernel, by decide +kernel⟩
theorem ok_is_closed (bt : Bt mg) {f : Addr} {fd : FuncData} (F : FunD K "is_closed" "is_closed" (defArgs s_is_closed) (defBody s_is_closed) (defScope s_is_closed) [] [] f fd) : FnG P w K mg base 8 f fd P_is_closed (spF K 1 F_is_closed) :=
  fnG_of F sc_is_closed rfl fun cdv A fr s H E hr hgd =>
    have rm := rm_of hr hgd
    have S_nd := sc_is_closed.nd
    (pss_mcons (ps_mfor (passes_of rfl) rfl (pi_mIt (pe_mV (i := 0) rfl (by (first | exact Or.inl rfl | exact Or.inr (Or.inl rfl) | exact Or.inr (Or.inr rfl))) (by decide) (by decide))) (pg_mtup (n := 2) rfl (pgs_mcons (pg_mname (i := 1) S_nd rfl (by (first | exact Or.inl rfl | exact Or.inr rfl)) (by (first | exact Or.inr rfl | exact Or.inl rfl))) (pgs_mcons (pg_mname (i := 2) S_nd rfl (by (first | exact Or.inl rfl | exact Or.inr rfl)) (by (first | exact Or.inr rfl | exact Or.inl rfl))) pgs_mnil rfl) rfl) rfl rfl) (pss_mcons (ps_mif (pt_mcmp (og_inA rm) (by first | rfl | exact nobehind _ (by decide) (by decide)) (pe_mTup (pa_mcons (pe_mD (pe_mV (i := 2) rfl (by (first | exact Or.inl rfl | exact Or.inr (Or.inl rfl) | exact Or.inr (Or.inr rfl))) (by decide) (by decide))) (pa_mcons (pe_mD (pe_mV (i := 1) rfl (by (first | exact Or.inl rfl | exact Or.inr (Or.inl rfl) | exact Or.inr (Or.inr rfl))) (by decide) (by decide))) pa_mnil rfl) rfl)) (pe_mV (i := 0) rfl (by (first | exact Or.inl rfl | exact Or.inr (Or.inl rfl) | exact Or.inr (Or.inr rfl))) (by decide) (by decide))) (pss_mone (ps_mret pe_mbl)) pss_mnil)
    (pss_mone (ps_mif (pt_mval (pe_mB (cg_any rfl) rfl bt.any (by decide +kernel) (pa_mcons (pe_mLc (n := 5) (own := [("c", 3), ("d", 4)]) rfl S_nd (pi_mIt (pe_mV (i := 0) rfl (by (first | exact Or.inl rfl | exact Or.inr (Or.inl rfl) | exact Or.inr (Or.inr rfl))) (by decide) (by decide))) (blkOk_by (by kernel_rfl)) (fun _ _ _ _ _ => (pg_mtup (n := 2) rfl (pgs_mcons (pg_mname (i := 3) S_nd rfl (by (first | exact Or.inl rfl | exact Or.inr rfl)) (by (first | exact Or.inr rfl | exact Or.inl rfl))) (pgs_mcons (pg_mname (i := 4) S_nd rfl (by (first | exact Or.inl rfl | exact Or.inr rfl)) (by (first | exact Or.inr rfl | exact Or.inl rfl))) pgs_mnil rfl) rfl) rfl rfl)) (fun _ _ _ _ _ => pts_mnil) (fun _ _ _ _ _ => (pe_mand (pe_mcmp (og_eq rm) (by first | rfl | exact nobehind _ (by decide) (by decide)) (pe_mV (i := 2) rfl (by (first | exact Or.inl rfl | exact Or.inr (Or.inl rfl) | exact Or.inr (Or.inr rfl))) (by decide) (by decide)) (pe_mV (i := 3) rfl (by (first | exact Or.inl rfl | exact Or.inr (Or.inl rfl) | exact Or.inr (Or.inr rfl))) (by decide) (by decide))) (pe_mone (pe_mcmp (og_notInA rm) (by first | rfl | exact nobehind _ (by decide) (by decide)) (pe_mTup (pa_mcons (pe_mD (pe_mV (i := 1) rfl (by (first | exact Or.inl rfl | exact Or.inr (Or.inl rfl) | exact Or.inr (Or.inr rfl))) (by decide) (by decide))) (pa_mcons (pe_mD (pe_mV (i := 4) rfl (by (first | exact Or.inl rfl | exact Or.inr (Or.inl rfl) | exact Or.inr (Or.inr rfl))) (by decide) (by decide))) pa_mnil rfl) rfl)) (pe_mV (i := 0) rfl (by (first | exact Or.inl rfl | exact Or.inr (Or.inl rfl) | exact Or.inr (Or.inr rfl))) (by decide) (by decide)))))) (fun _ => rfl)) pa_mnil rfl) (by decide) (by decide) rfl rfl) (fun _ => rfl)) (pss_mone (ps_mret pe_mbl)) pss_mnil))) (fun _ => rfl))
    (pss_mone (ps_mret pe_mbl)))
theorem cal_is_closed (bt : Bt mg) {f : Addr} {fd : FuncData} (F : FunD K "is_closed" "is_closed" (defArgs s_is_closed) (defBody s_is_closed) (defScope s_is_closed) [] [] f fd) (hm : mg "is_closed" = some (.ref f)) : CalG P w K mg base 8 "is_closed" P_is_closed F_is_closed :=
  ⟨f, fd, ok_is_closed bt F, hm, F.kp, F.bindsN fun _ _ _ _ _ _ us hl => match us, hl with | [_], _ => rfl⟩
abbrev s_is_order_value : Stmt := top 17
def N_is_order_value : List Str := ["value", "one", "near", "far"]
def P_is_order_value : List Str := ["value"]
def is_order_value_c1 : M := mLc 4 (mIt (mIxA (mV 0) (mK (.int 2)))) (gNm (outs 4 [1]) 1) mYes (mCall F_is_pair_of [(mIxA (mV 0) (mK (.int 1))), (mV 1)]) [1]
def is_order_value_c2 : M := mLc 4 (mZip (mIxA (mV 0) (mK (.int 2))) (mSl (mIxA (mV 0) (mK (.int 2))) (some (mK (.int 1))) none)) (gTp 2 (gs1 (gNm (outs 4 [2, 3]) 2) (gs1 (gNm (outs 4 [2, 3]) 3) gs0))) mYes (mOp2 gLt (mV 2) (mV 3)) [2, 3]
def m_is_order_value : MS := (mSeq (mIfS ((mOr (mNot (mCall F_is_tuple [(mV 0), (mK (.int 3))])) (mOr (mNot (mIsA ["str"] (mIxA (mV 0) (mK (.int 0))))) (mOp2 gNe (mIxA (mV 0) (mK (.int 0))) (mK (.str "order")))))) (mRet (mK (.bool false))) mSkip)
    (mSeq (mIfS ((mOr (mNot (mCall F_is_within [(mIxA (mV 0) (mK (.int 1))), (mK (.int 1)), (mK (.int 10))])) (mNot (mIsA ["tuple"] (mIxA (mV 0) (mK (.int 2))))))) (mRet (mK (.bool false))) mSkip)
    (mSeq (mIfS (mNot (mB gAll [(is_order_value_c1)])) (mRet (mK (.bool false))) mSkip)
    (mRet ((mAnd (mB gAll [(is_order_value_c2)]) (mCall F_is_closed [(mIxA (mV 0) (mK (.int 2)))])))))))
def F_is_order_value : Fn := runF 4 [0] m_is_order_value
theorem sc_is_order_value : FnScope N_is_order_value P_is_order_value (defScope s_is_order_value) := ⟨rfl, rfl, rfl, by decide +kernel, rfl, by decide +kernel, by decide +kernel⟩
theorem ok_is_order_value (bt : Bt mg) (c_is_tuple : CalG P w K mg base 8 "is_tuple" P_is_tuple F_is_tuple) (c_is_within : CalG P w K mg base 9 "is_within" P_is_within F_is_within) (c_is_pair_of : CalG P w K mg base 10 "is_pair_of" P_is_pair_of F_is_pair_of) (c_is_closed : CalG P w K mg base 8 "is_closed" P_is_closed F_is_closed) (g_MOST_RUNNERS : ∃ t, mg "MOST_RUNNERS" = some (.int 10 t)) {f : Addr} {fd : FuncData} (F : FunD K "is_order_value" "is_order_value" (defArgs s_is_order_value) (defBody s_is_order_value) (defScope s_is_order_value) [] [] f fd) : FnG P w K mg base 11 f fd P_is_order_value (spF K 1 F_is_order_value) :=
  fnG_of F sc_is_order_value rfl fun cdv A fr s H E hr hgd =>
    have rm := rm_of hr hgd
    have S_nd := sc_is_order_value.nd
    (pss_mcons (ps_mif (pt_w (pw_mor (pt_mnot (pt_mval (pe_mCall c_is_tuple hr (by decide) hgd rfl rfl (pa_mcons (pe_mV (i := 0) rfl (by (first | exact Or.inl rfl | exact Or.inr (Or.inl rfl) | exact Or.inr (Or.inr rfl))) (by decide) (by decide)) (pa_mcons pe_mint pa_mnil rfl) rfl) (by decide) rfl rfl) (fun _ => rfl))) (pw_mor (pt_mnot (pt_mval (pe_mIsA1 rfl bt.isinstance (pe_mIxA rm (pe_mV (i := 0) rfl (by (first | exact Or.inl rfl | exact Or.inr (Or.inl rfl) | exact Or.inr (Or.inr rfl))) (by decide) (by decide)) pe_mint (fun _ _ => rfl)) (pe_ty rfl bt.str (by decide +kernel) (by decide) (by decide)) rfl rfl rfl) (fun _ => rfl))) (pw_mor1 (pt_mcmp (og_ne rm) (by first | rfl | exact nobehind _ (by decide) (by decide)) (pe_mIxA rm (pe_mV (i := 0) rfl (by (first | exact Or.inl rfl | exact Or.inr (Or.inl rfl) | exact Or.inr (Or.inr rfl))) (by decide) (by decide)) pe_mint (fun _ _ => rfl)) pe_mstr))))) (pss_mone (ps_mret pe_mbl)) pss_mnil)
    (pss_mcons (ps_mif (pt_w (pw_mor (pt_mnot (pt_mval (pe_mCall c_is_within hr (by decide) hgd rfl rfl (pa_mcons (pe_mIxA rm (pe_mV (i := 0) rfl (by (first | exact Or.inl rfl | exact Or.inr (Or.inl rfl) | exact Or.inr (Or.inr rfl))) (by decide) (by decide)) pe_mint (fun _ _ => rfl)) (pa_mcons pe_mint (pa_mcons (pe_mGi rfl g_MOST_RUNNERS (by decide)) pa_mnil rfl) rfl) rfl) (by decide) rfl rfl) (fun _ => rfl))) (pw_mor1 (pt_mnot (pt_mval (pe_mIsA1 rfl bt.isinstance (pe_mIxA rm (pe_mV (i := 0) rfl (by (first | exact Or.inl rfl | exact Or.inr (Or.inl rfl) | exact Or.inr (Or.inr rfl))) (by decide) (by decide)) pe_mint (fun _ _ => rfl)) (pe_ty rfl bt.tuple (by decide +kernel) (by decide) (by decide)) rfl rfl rfl) (fun _ => rfl)))))) (pss_mone (ps_mret pe_mbl)) pss_mnil)
    (pss_mcons (ps_mif (pt_mnot (pt_mval (pe_mB (cg_all rfl) rfl bt.all (by decide +kernel) (pa_mcons (pe_mLc (n := 4) (own := [("one", 1)]) rfl S_nd (pi_mIt (pe_mIxA rm (pe_mV (i := 0) rfl (by (first | exact Or.inl rfl | exact Or.inr (Or.inl rfl) | exact Or.inr (Or.inr rfl))) (by decide) (by decide)) pe_mint (fun _ _ => rfl))) (blkOk_by (by kernel_rfl)) (fun _ _ _ _ _ => (pg_mname (i := 1) S_nd rfl (by (first | exact Or.inl rfl | exact Or.inr rfl)) (by (first | exact Or.inr rfl | exact Or.inl rfl)))) (fun _ _ _ _ _ => pts_mnil) (fun _ _ _ _ _ => (pe_mCall c_is_pair_of hr (by decide) hgd rfl rfl (pa_mcons (pe_mIxA rm (pe_mV (i := 0) rfl (by (first | exact Or.inl rfl | exact Or.inr (Or.inl rfl) | exact Or.inr (Or.inr rfl))) (by decide) (by decide)) pe_mint (fun _ _ => rfl)) (pa_mcons (pe_mV (i := 1) rfl (by (first | exact Or.inl rfl | exact Or.inr (Or.inl rfl) | exact Or.inr (Or.inr rfl))) (by decide) (by decide)) pa_mnil rfl) rfl) (by decide) rfl rfl)) (fun _ => rfl)) pa_mnil rfl) (by decide) (by decide) rfl rfl) (fun _ => rfl))) (pss_mone (ps_mret pe_mbl)) pss_mnil)
    (pss_mone (ps_mret (pe_mand (pe_mB (cg_all rfl) rfl bt.all (by decide +kernel) (pa_mcons (pe_mLc (n := 4) (own := [("near", 2), ("far", 3)]) rfl S_nd (pi_mZip rfl bt.zip (pe_mIxA rm (pe_mV (i := 0) rfl (by (first | exact Or.inl rfl | exact Or.inr (Or.inl rfl) | exact Or.inr (Or.inr rfl))) (by decide) (by decide)) pe_mint (fun _ _ => rfl)) (pe_mSl (pe_mIxA rm (pe_mV (i := 0) rfl (by (first | exact Or.inl rfl | exact Or.inr (Or.inl rfl) | exact Or.inr (Or.inr rfl))) (by decide) (by decide)) pe_mint (fun _ _ => rfl)) (po_msome pe_mint) po_mnone) rfl rfl rfl) (blkOk_by (by kernel_rfl)) (fun _ _ _ _ _ => (pg_mtup (n := 2) rfl (pgs_mcons (pg_mname (i := 2) S_nd rfl (by (first | exact Or.inl rfl | exact Or.inr rfl)) (by (first | exact Or.inr rfl | exact Or.inl rfl))) (pgs_mcons (pg_mname (i := 3) S_nd rfl (by (first | exact Or.inl rfl | exact Or.inr rfl)) (by (first | exact Or.inr rfl | exact Or.inl rfl))) pgs_mnil rfl) rfl) rfl rfl)) (fun _ _ _ _ _ => pts_mnil) (fun _ _ _ _ _ => (pe_mcmp (og_lt rm) (by first | rfl | exact nobehind _ (by decide) (by decide)) (pe_mV (i := 2) rfl (by (first | exact Or.inl rfl | exact Or.inr (Or.inl rfl) | exact Or.inr (Or.inr rfl))) (by decide) (by decide)) (pe_mV (i := 3) rfl (by (first | exact Or.inl rfl | exact Or.inr (Or.inl rfl) | exact Or.inr (Or.inr rfl))) (by decide) (by decide)))) (fun _ => rfl)) pa_mnil rfl) (by decide) (by decide) rfl rfl) (pe_mone (pe_mCall c_is_closed hr (by decide) hgd rfl rfl (pa_mcons (pe_mIxA rm (pe_mV (i := 0) rfl (by (first | exact Or.inl rfl | exact Or.inr (Or.inl rfl) | exact Or.inr (Or.inr rfl))) (by decide) (by decide)) pe_mint (fun _ _ => rfl)) pa_mnil rfl) (by decide) rfl rfl))))))))
theorem cal_is_order_value (bt : Bt mg) (c_is_tuple : CalG P w K mg base 8 "is_tuple" P_is_tuple F_is_tuple) (c_is_within : CalG P w K mg base 9 "is_within" P_is_within F_is_within) (c_is_pair_of : CalG P w K mg base 10 "is_pair_of" P_is_pair_of F_is_pair_of) (c_is_closed : CalG P w K mg base 8 "is_closed" P_is_closed F_is_closed) (g_MOST_RUNNERS : ∃ t, mg "MOST_RUNNERS" = some (.int 10 t)) {f : Addr} {fd : FuncData} (F : FunD K "is_order_value" "is_order_value" (defArgs s_is_order_value) (defBody s_is_order_value) (defScope s_is_order_value) [] [] f fd) (hm : mg "is_order_value" = some (.ref f)) : CalG P w K mg base 11 "is_order_value" P_is_order_value F_is_order_value :=
  ⟨f, fd, ok_is_order_value bt c_is_tuple c_is_within c_is_pair_of c_is_closed g_MOST_RUNNERS F, hm, F.kp, F.bindsN fun _ _ _ _ _ _ us hl => match us, hl with | [_], _ => rfl⟩
abbrev s_want_order : Stmt := top 18
def N_want_order : List Str := ["order"]
def P_want_order : List Str := ["order"]
def m_want_order : MS := (mIfS (mNot (mCall F_is_order_value [(mV 0)])) (mNo) mSkip)
def F_want_order : Fn := runF 1 [0] m_want_order
theorem sc_want_order : FnScope N_want_order P_want_order (defScope s_want_order) := ⟨rfl, rfl, rfl, by decide +kernel, rfl, by decide +kernel, by decide +kernel⟩
theorem ok_want_order (bt : Bt mg) (c_is_order_value : CalG P w K mg base 11 "is_order_value" P_is_order_value F_is_order_value) {f : Addr} {fd : FuncData} (F : FunD K "want_order" "want_order" (defArgs s_want_order) (defBody s_want_order) (defScope s_want_order) [] [] f fd) : FnG P w K mg base 12 f fd P_want_order (spF K 1 F_want_order) :=
  fnG_of F sc_want_order rfl fun cdv A fr s H E hr hgd =>
    have rm := rm_of hr hgd
    have S_nd := sc_want_order.nd
    (pss_mone (ps_mif (pt_mnot (pt_mval (pe_mCall c_is_order_value hr (by decide) hgd rfl rfl (pa_mcons (pe_mV (i := 0) rfl (by (first | exact Or.inl rfl | exact Or.inr (Or.inl rfl) | exact Or.inr (Or.inr rfl))) (by decide) (by decide)) pa_mnil rfl) (by decide) rfl rfl) (fun _ => rfl))) (pss_mone ps_mNo) pss_mnil))
theorem cal_want_order (bt : Bt mg) (c_is_order_value : CalG P w K mg base 11 "is_order_value" P_is_order_value F_is_order_value) {f : Addr} {fd : FuncData} (F : FunD K "want_order" "want_order" (defArgs s_want_order) (defBody s_want_order) (defScope s_want_order) [] [] f fd) (hm : mg "want_order" = some (.ref f)) : CalG P w K mg base 12 "want_order" P_want_order F_want_order :=
  ⟨f, fd, ok_want_order bt c_is_order_value F, hm, F.kp, F.bindsN fun _ _ _ _ _ _ us hl => match us, hl with | [_], _ => rfl⟩
abbrev s_want_many : Stmt := top 19
def N_want_many : List Str := ["runners"]
def P_want_many : List Str := ["runners"]
def m_want_many : MS := (mIfS (mNot (mCall F_is_within [(mV 0), (mK (.int 1)), (mK (.int 10))])) (mNo) mSkip)
def F_want_many : Fn := runF 1 [0] m_want_many
theorem sc_want_many : FnScope N_want_many P_want_many (defScope s_want_many) := ⟨rfl, rfl, rfl, by decide +kernel, rfl, by decide +kernel, by decide +kernel⟩
theorem ok_want_many (bt : Bt mg) (c_is_within : CalG P w K mg base 9 "is_within" P_is_within F_is_within) (g_MOST_RUNNERS : ∃ t, mg "MOST_RUNNERS" = some (.int 10 t)) {f : Addr} {fd : FuncData} (F : FunD K "want_many" "want_many" (defArgs s_want_many) (defBody s_want_many) (defScope s_want_many) [] [] f fd) : FnG P w K mg base 10 f fd P_want_many (spF K 1 F_want_many) :=
  fnG_of F sc_want_many rfl fun cdv A fr s H E hr hgd =>
    have rm := rm_of hr hgd
    have S_nd := sc_want_many.nd
    (pss_mone (ps_mif (pt_mnot (pt_mval (pe_mCall c_is_within hr (by decide) hgd rfl rfl (pa_mcons (pe_mV (i := 0) rfl (by (first | exact Or.inl rfl | exact Or.inr (Or.inl rfl) | exact Or.inr (Or.inr rfl))) (by decide) (by decide)) (pa_mcons pe_mint (pa_mcons (pe_mGi rfl g_MOST_RUNNERS (by decide)) pa_mnil rfl) rfl) rfl) (by decide) rfl rfl) (fun _ => rfl))) (pss_mone ps_mNo) pss_mnil))
theorem cal_want_many (bt : Bt mg) (c_is_within : CalG P w K mg base 9 "is_within" P_is_within F_is_within) (g_MOST_RUNNERS : ∃ t, mg "MOST_RUNNERS" = some (.int 10 t)) {f : Addr} {fd : FuncData} (F : FunD K "want_many" "want_many" (defArgs s_want_many) (defBody s_want_many) (defScope s_want_many) [] [] f fd) (hm : mg "want_many" = some (.ref f)) : CalG P w K mg base 10 "want_many" P_want_many F_want_many :=
  ⟨f, fd, ok_want_many bt c_is_within g_MOST_RUNNERS F, hm, F.kp, F.bindsN fun _ _ _ _ _ _ us hl => match us, hl with | [_], _ => rfl⟩
abbrev s_want_runner : Stmt := top 20
def N_want_runner : List Str := ["runners", "runner"]
def P_want_runner : List Str := ["runners", "runner"]
def m_want_runner : MS := (mIfS (mNot (mCall F_is_within [(mV 1), (mK (.int 0)), (mOp2 gSub (mV 0) (mK (.int 1)))])) (mNo) mSkip)
def F_want_runner : Fn := runF 2 [0, 1] m_want_runner
theorem sc_want_runner : FnScope N_want_runner P_want_runner (defScope s_want_runner) := ⟨rfl, rfl, rfl, by decide +kernel, rfl, by decide +kernel, by decide +kernel⟩
theorem ok_want_runner (bt : Bt mg) (c_is_within : CalG P w K mg base 9 "is_within" P_is_within F_is_within) {f : Addr} {fd : FuncData} (F : FunD K "want_runner" "want_runner" (defArgs s_want_runner) (defBody s_want_runner) (defScope s_want_runner) [] [] f fd) : FnG P w K mg base 10 f fd P_want_runner (spF K 2 F_want_runner) :=
  fnG_of F sc_want_runner rfl fun cdv A fr s H E hr hgd =>
    have rm := rm_of hr hgd
    have S_nd := sc_want_runner.nd
    (pss_mone (ps_mif (pt_mnot (pt_mval (pe_mCall c_is_within hr (by decide) hgd rfl rfl (pa_mcons (pe_mV (i := 1) rfl (by (first | exact Or.inl rfl | exact Or.inr (Or.inl rfl) | exact Or.inr (Or.inr rfl))) (by decide) (by decide)) (pa_mcons pe_mint (pa_mcons (pe_mbin og_sub (pe_mV (i := 0) rfl (by (first | exact Or.inl rfl | exact Or.inr (Or.inl rfl) | exact Or.inr (Or.inr rfl))) (by decide) (by decide)) pe_mint) pa_mnil rfl) rfl) rfl) (by decide) rfl rfl) (fun _ => rfl))) (pss_mone ps_mNo) pss_mnil))
theorem cal_want_runner (bt : Bt mg) (c_is_within : CalG P w K mg base 9 "is_within" P_is_within F_is_within) {f : Addr} {fd : FuncData} (F : FunD K "want_runner" "want_runner" (defArgs s_want_runner) (defBody s_want_runner) (defScope s_want_runner) [] [] f fd) (hm : mg "want_runner" = some (.ref f)) : CalG P w K mg base 10 "want_runner" P_want_runner F_want_runner :=
  ⟨f, fd, ok_want_runner bt c_is_within F, hm, F.kp, F.bindsN fun _ _ _ _ _ _ us hl => match us, hl with | [_, _], _ => rfl⟩
abbrev s_want_pair : Stmt := top 21
def N_want_pair : List Str := ["runners", "pair"]
def P_want_pair : List Str := ["runners", "pair"]
def m_want_pair : MS := (mIfS (mNot (mCall F_is_pair_of [(mV 0), (mV 1)])) (mNo) mSkip)
def F_want_pair : Fn := runF 2 [0, 1] m_want_pair
theorem sc_want_pair : FnScope N_want_pair P_want_pair (defScope s_want_pair) := ⟨rfl, rfl, rfl, by decide +kernel, rfl, by decide +kernel, by decide +kernel⟩
theorem ok_want_pair (bt : Bt mg) (c_is_pair_of : CalG P w K mg base 10 "is_pair_of" P_is_pair_of F_is_pair_of) {f : Addr} {fd : FuncData} (F : FunD K "want_pair" "want_pair" (defArgs s_want_pair) (defBody s_want_pair) (defScope s_want_pair) [] [] f fd) : FnG P w K mg base 11 f fd P_want_pair (spF K 2 F_want_pair) :=
  fnG_of F sc_want_pair rfl fun cdv A fr s H E hr hgd =>
    have rm := rm_of hr hgd
    have S_nd := sc_want_pair.nd
    (pss_mone (ps_mif (pt_mnot (pt_mval (pe_mCall c_is_pair_of hr (by decide) hgd rfl rfl (pa_mcons (pe_mV (i := 0) rfl (by (first | exact Or.inl rfl | exact Or.inr (Or.inl rfl) | exact Or.inr (Or.inr rfl))) (by decide) (by decide)) (pa_mcons (pe_mV (i := 1) rfl (by (first | exact Or.inl rfl | exact Or.inr (Or.inl rfl) | exact Or.inr (Or.inr rfl))) (by decide) (by decide)) pa_mnil rfl) rfl) (by decide) rfl rfl) (fun _ => rfl))) (pss_mone ps_mNo) pss_mnil))
theorem cal_want_pair (bt : Bt mg) (c_is_pair_of : CalG P w K mg base 10 "is_pair_of" P_is_pair_of F_is_pair_of) {f : Addr} {fd : FuncData} (F : FunD K "want_pair" "want_pair" (defArgs s_want_pair) (defBody s_want_pair) (defScope s_want_pair) [] [] f fd) (hm : mg "want_pair" = some (.ref f)) : CalG P w K mg base 11 "want_pair" P_want_pair F_want_pair :=
  ⟨f, fd, ok_want_pair bt c_is_pair_of F, hm, F.kp, F.bindsN fun _ _ _ _ _ _ us hl => match us, hl with | [_, _], _ => rfl⟩
abbrev s_are_reports_of : Stmt := top 22
def N_are_reports_of : List Str := ["runners", "value", "one"]
def P_are_reports_of : List Str := ["runners", "value"]
def are_reports_of_c1 : M := mLc 3 (mIt (mV 1)) (gNm (outs 3 [2]) 2) mYes (mCall F_is_pair_of [(mV 0), (mV 2)]) [2]
def m_are_reports_of : MS := (mRet ((mAnd (mCall F_is_list [(mV 1)]) (mAnd (mOp2 gLe (mLen (mV 1)) (mK (.int 200))) (mB gAll [(are_reports_of_c1)])))))
def F_are_reports_of : Fn := runF 3 [0, 1] m_are_reports_of
theorem sc_are_reports_of : FnScope N_are_reports_of P_are_reports_of (defScope s_are_reports_of) := ⟨rfl, rfl, rfl, by decide +kernel, rfl, by decide +kernel, by decide +kernel⟩
theorem ok_are_reports_of (bt : Bt mg) (c_is_list : CalG P w K mg base 8 "is_list" P_is_list F_is_list) (c_is_pair_of : CalG P w K mg base 10 "is_pair_of" P_is_pair_of F_is_pair_of) (g_MOST_REPORTS : ∃ t, mg "MOST_REPORTS" = some (.int 200 t)) {f : Addr} {fd : FuncData} (F : FunD K "are_reports_of" "are_reports_of" (defArgs s_are_reports_of) (defBody s_are_reports_of) (defScope s_are_reports_of) [] [] f fd) : FnG P w K mg base 11 f fd P_are_reports_of (spF K 2 F_are_reports_of) :=
  fnG_of F sc_are_reports_of rfl fun cdv A fr s H E hr hgd =>
    have rm := rm_of hr hgd
    have S_nd := sc_are_reports_of.nd
    (pss_mone (ps_mret (pe_mand (pe_mCall c_is_list hr (by decide) hgd rfl rfl (pa_mcons (pe_mV (i := 1) rfl (by (first | exact Or.inl rfl | exact Or.inr (Or.inl rfl) | exact Or.inr (Or.inr rfl))) (by decide) (by decide)) pa_mnil rfl) (by decide) rfl rfl) (pe_mand (pe_mcmp (og_le rm) (by first | rfl | exact nobehind _ (by decide) (by decide)) (pe_mLen rfl bt.len (pe_mV (i := 1) rfl (by (first | exact Or.inl rfl | exact Or.inr (Or.inl rfl) | exact Or.inr (Or.inr rfl))) (by decide) (by decide)) rfl rfl) (pe_mGi rfl g_MOST_REPORTS (by decide))) (pe_mone (pe_mB (cg_all rfl) rfl bt.all (by decide +kernel) (pa_mcons (pe_mLc (n := 3) (own := [("one", 2)]) rfl S_nd (pi_mIt (pe_mV (i := 1) rfl (by (first | exact Or.inl rfl | exact Or.inr (Or.inl rfl) | exact Or.inr (Or.inr rfl))) (by decide) (by decide))) (blkOk_by (by kernel_rfl)) (fun _ _ _ _ _ => (pg_mname (i := 2) S_nd rfl (by (first | exact Or.inl rfl | exact Or.inr rfl)) (by (first | exact Or.inr rfl | exact Or.inl rfl)))) (fun _ _ _ _ _ => pts_mnil) (fun _ _ _ _ _ => (pe_mCall c_is_pair_of hr (by decide) hgd rfl rfl (pa_mcons (pe_mV (i := 0) rfl (by (first | exact Or.inl rfl | exact Or.inr (Or.inl rfl) | exact Or.inr (Or.inr rfl))) (by decide) (by decide)) (pa_mcons (pe_mV (i := 2) rfl (by (first | exact Or.inl rfl | exact Or.inr (Or.inl rfl) | exact Or.inr (Or.inr rfl))) (by decide) (by decide)) pa_mnil rfl) rfl) (by decide) rfl rfl)) (fun _ => rfl)) pa_mnil rfl) (by decide) (by decide) rfl rfl))))))
theorem cal_are_reports_of (bt : Bt mg) (c_is_list : CalG P w K mg base 8 "is_list" P_is_list F_is_list) (c_is_pair_of : CalG P w K mg base 10 "is_pair_of" P_is_pair_of F_is_pair_of) (g_MOST_REPORTS : ∃ t, mg "MOST_REPORTS" = some (.int 200 t)) {f : Addr} {fd : FuncData} (F : FunD K "are_reports_of" "are_reports_of" (defArgs s_are_reports_of) (defBody s_are_reports_of) (defScope s_are_reports_of) [] [] f fd) (hm : mg "are_reports_of" = some (.ref f)) : CalG P w K mg base 11 "are_reports_of" P_are_reports_of F_are_reports_of :=
  ⟨f, fd, ok_are_reports_of bt c_is_list c_is_pair_of g_MOST_REPORTS F, hm, F.kp, F.bindsN fun _ _ _ _ _ _ us hl => match us, hl with | [_, _], _ => rfl⟩
abbrev s_want_reports : Stmt := top 23
def N_want_reports : List Str := ["runners", "reports"]
def P_want_reports : List Str := ["runners", "reports"]
def m_want_reports : MS := (mSeq (mExpr (mCall F_want_many [(mV 0)]))
    (mIfS (mNot (mCall F_are_reports_of [(mV 0), (mV 1)])) (mNo) mSkip))
def F_want_reports : Fn := runF 2 [0, 1] m_want_reports
theorem sc_want_reports : FnScope N_want_reports P_want_reports (defScope s_want_reports) := ⟨rfl, rfl, rfl, by decide +kernel, rfl, by decide +kernel, by decide +kernel⟩
theorem ok_want_reports (bt : Bt mg) (c_want_many : CalG P w K mg base 10 "want_many" P_want_many F_want_many) (c_are_reports_of : CalG P w K mg base 11 "are_reports_of" P_are_reports_of F_are_reports_of) {f : Addr} {fd : FuncData} (F : FunD K "want_reports" "want_reports" (defArgs s_want_reports) (defBody s_want_reports) (defScope s_want_reports) [] [] f fd) : FnG P w K mg base 12 f fd P_want_reports (spF K 2 F_want_reports) :=
  fnG_of F sc_want_reports rfl fun cdv A fr s H E hr hgd =>
    have rm := rm_of hr hgd
    have S_nd := sc_want_reports.nd
    (pss_mcons (ps_mexpr (pe_mCall c_want_many hr (by decide) hgd rfl rfl (pa_mcons (pe_mV (i := 0) rfl (by (first | exact Or.inl rfl | exact Or.inr (Or.inl rfl) | exact Or.inr (Or.inr rfl))) (by decide) (by decide)) pa_mnil rfl) (by decide) rfl rfl) rfl)
    (pss_mone (ps_mif (pt_mnot (pt_mval (pe_mCall c_are_reports_of hr (by decide) hgd rfl rfl (pa_mcons (pe_mV (i := 0) rfl (by (first | exact Or.inl rfl | exact Or.inr (Or.inl rfl) | exact Or.inr (Or.inr rfl))) (by decide) (by decide)) (pa_mcons (pe_mV (i := 1) rfl (by (first | exact Or.inl rfl | exact Or.inr (Or.inl rfl) | exact Or.inr (Or.inr rfl))) (by decide) (by decide)) pa_mnil rfl) rfl) (by decide) rfl rfl) (fun _ => rfl))) (pss_mone ps_mNo) pss_mnil)))
theorem cal_want_reports (bt : Bt mg) (c_want_many : CalG P w K mg base 10 "want_many" P_want_many F_want_many) (c_are_reports_of : CalG P w K mg base 11 "are_reports_of" P_are_reports_of F_are_reports_of) {f : Addr} {fd : FuncData} (F : FunD K "want_reports" "want_reports" (defArgs s_want_reports) (defBody s_want_reports) (defScope s_want_reports) [] [] f fd) (hm : mg "want_reports" = some (.ref f)) : CalG P w K mg base 12 "want_reports" P_want_reports F_want_reports :=
  ⟨f, fd, ok_want_reports bt c_want_many c_are_reports_of F, hm, F.kp, F.bindsN fun _ _ _ _ _ _ us hl => match us, hl with | [_, _], _ => rfl⟩
abbrev s_made : Stmt := top 24
def N_made : List Str := ["runners", "pairs"]
def P_made : List Str := ["runners", "pairs"]
def m_made : MS := (mRet (mTup [(mK (.str "order")), (mD (mV 0)), (mD (mB gTuple [(mB gSortedA [(mV 1)])]))]))
def F_made : Fn := runF 2 [0, 1] m_made
theorem sc_made : FnScope N_made P_made (defScope s_made) := ⟨rfl, rfl, rfl, by decide +kernel, rfl, by decide +kernel, by decide +kernel⟩
theorem ok_made (bt : Bt mg) {f : Addr} {fd : FuncData} (F : FunD K "made" "made" (defArgs s_made) (defBody s_made) (defScope s_made) [] [] f fd) : FnG P w K mg base 8 f fd P_made (spF K 2 F_made) :=
  fnG_of F sc_made rfl fun cdv A fr s H E hr hgd =>
    have rm := rm_of hr hgd
    have S_nd := sc_made.nd
    (pss_mone (ps_mret (pe_mTup (pa_mcons pe_mstr (pa_mcons (pe_mD (pe_mV (i := 0) rfl (by (first | exact Or.inl rfl | exact Or.inr (Or.inl rfl) | exact Or.inr (Or.inr rfl))) (by decide) (by decide))) (pa_mcons (pe_mD (pe_mTy cg_tuple rfl bt.tuple (by decide +kernel) (pa_mcons (pe_mB (cg_sortedA rm rfl) rfl bt.sorted (by decide +kernel) (pa_mcons (pe_mV (i := 1) rfl (by (first | exact Or.inl rfl | exact Or.inr (Or.inl rfl) | exact Or.inr (Or.inr rfl))) (by decide) (by decide)) pa_mnil rfl) (by decide) (by decide) rfl rfl) pa_mnil rfl) (by decide) (by decide) rfl rfl)) pa_mnil rfl) rfl) rfl))))
theorem cal_made (bt : Bt mg) {f : Addr} {fd : FuncData} (F : FunD K "made" "made" (defArgs s_made) (defBody s_made) (defScope s_made) [] [] f fd) (hm : mg "made" = some (.ref f)) : CalG P w K mg base 8 "made" P_made F_made :=
  ⟨f, fd, ok_made bt F, hm, F.kp, F.bindsN fun _ _ _ _ _ _ us hl => match us, hl with | [_, _], _ => rfl⟩
abbrev s_behind_of : Stmt := top 25
def N_behind_of : List Str := ["pairs", "runner", "a", "b"]
def P_behind_of : List Str := ["pairs", "runner"]
def behind_of_c1 : M := mLc 4 (mIt (mV 0)) (gTp 2 (gs1 (gNm (outs 4 [2, 3]) 2) (gs1 (gNm (outs 4 [2, 3]) 3) gs0))) (mOp2 gEq (mV 2) (mV 1)) (mV 3) [2, 3]
def m_behind_of : MS := (mRet (mB gSortedA [(behind_of_c1)]))
def F_behind_of : Fn := runF 4 [0, 1] m_behind_of
theorem sc_behind_of : FnScope N_behind_of P_behind_of (defScope s_behind_of) := ⟨rfl, rfl, rfl, by decide +kernel, rfl, by decide +kernel, by decide +kernel⟩
theorem ok_behind_of (bt : Bt mg) {f : Addr} {fd : FuncData} (F : FunD K "behind_of" "behind_of" (defArgs s_behind_of) (defBody s_behind_of) (defScope s_behind_of) [] [] f fd) : FnG P w K mg base 8 f fd P_behind_of (spF K 2 F_behind_of) :=
  fnG_of F sc_behind_of rfl fun cdv A fr s H E hr hgd =>
    have rm := rm_of hr hgd
    have S_nd := sc_behind_of.nd
    (pss_mone (ps_mret (pe_mB (cg_sortedA rm rfl) rfl bt.sorted (by decide +kernel) (pa_mcons (pe_mLc (n := 4) (own := [("a", 2), ("b", 3)]) rfl S_nd (pi_mIt (pe_mV (i := 0) rfl (by (first | exact Or.inl rfl | exact Or.inr (Or.inl rfl) | exact Or.inr (Or.inr rfl))) (by decide) (by decide))) (blkOk_by (by kernel_rfl)) (fun _ _ _ _ _ => (pg_mtup (n := 2) rfl (pgs_mcons (pg_mname (i := 2) S_nd rfl (by (first | exact Or.inl rfl | exact Or.inr rfl)) (by (first | exact Or.inr rfl | exact Or.inl rfl))) (pgs_mcons (pg_mname (i := 3) S_nd rfl (by (first | exact Or.inl rfl | exact Or.inr rfl)) (by (first | exact Or.inr rfl | exact Or.inl rfl))) pgs_mnil rfl) rfl) rfl rfl)) (fun _ _ _ _ _ => (pts_one (pt_mcmp (og_eq rm) (by first | rfl | exact nobehind _ (by decide) (by decide)) (pe_mV (i := 2) rfl (by (first | exact Or.inl rfl | exact Or.inr (Or.inl rfl) | exact Or.inr (Or.inr rfl))) (by decide) (by decide)) (pe_mV (i := 1) rfl (by (first | exact Or.inl rfl | exact Or.inr (Or.inl rfl) | exact Or.inr (Or.inr rfl))) (by decide) (by decide))))) (fun _ _ _ _ _ => (pe_mV (i := 3) rfl (by (first | exact Or.inl rfl | exact Or.inr (Or.inl rfl) | exact Or.inr (Or.inr rfl))) (by decide) (by decide))) (fun _ => rfl)) pa_mnil rfl) (by decide) (by decide) rfl rfl)))
theorem cal_behind_of (bt : Bt mg) {f : Addr} {fd : FuncData} (F : FunD K "behind_of" "behind_of" (defArgs s_behind_of) (defBody s_behind_of) (defScope s_behind_of) [] [] f fd) (hm : mg "behind_of" = some (.ref f)) : CalG P w K mg base 8 "behind_of" P_behind_of F_behind_of :=
  ⟨f, fd, ok_behind_of bt F, hm, F.kp, F.bindsN fun _ _ _ _ _ _ us hl => match us, hl with | [_, _], _ => rfl⟩
abbrev s_ahead_of : Stmt := top 26
def N_ahead_of : List Str := ["pairs", "runner", "a", "b"]
def P_ahead_of : List Str := ["pairs", "runner"]
def ahead_of_c1 : M := mLc 4 (mIt (mV 0)) (gTp 2 (gs1 (gNm (outs 4 [2, 3]) 2) (gs1 (gNm (outs 4 [2, 3]) 3) gs0))) (mOp2 gEq (mV 3) (mV 1)) (mV 2) [2, 3]
def m_ahead_of : MS := (mRet (mB gSortedA [(ahead_of_c1)]))
def F_ahead_of : Fn := runF 4 [0, 1] m_ahead_of
theorem sc_ahead_of : FnScope N_ahead_of P_ahead_of (defScope s_ahead_of) := ⟨rfl, rfl, rfl, by decide +kernel, rfl, by decide +kernel, by decide +kernel⟩
theorem ok_ahead_of (bt : Bt mg) {f : Addr} {fd : FuncData} (F : FunD K "ahead_of" "ahead_of" (defArgs s_ahead_of) (defBody s_ahead_of) (defScope s_ahead_of) [] [] f fd) : FnG P w K mg base 8 f fd P_ahead_of (spF K 2 F_ahead_of) :=
  fnG_of F sc_ahead_of rfl fun cdv A fr s H E hr hgd =>
    have rm := rm_of hr hgd
    have S_nd := sc_ahead_of.nd
    (pss_mone (ps_mret (pe_mB (cg_sortedA rm rfl) rfl bt.sorted (by decide +kernel) (pa_mcons (pe_mLc (n := 4) (own := [("a", 2), ("b", 3)]) rfl S_nd (pi_mIt (pe_mV (i := 0) rfl (by (first | exact Or.inl rfl | exact Or.inr (Or.inl rfl) | exact Or.inr (Or.inr rfl))) (by decide) (by decide))) (blkOk_by (by kernel_rfl)) (fun _ _ _ _ _ => (pg_mtup (n := 2) rfl (pgs_mcons (pg_mname (i := 2) S_nd rfl (by (first | exact Or.inl rfl | exact Or.inr rfl)) (by (first | exact Or.inr rfl | exact Or.inl rfl))) (pgs_mcons (pg_mname (i := 3) S_nd rfl (by (first | exact Or.inl rfl | exact Or.inr rfl)) (by (first | exact Or.inr rfl | exact Or.inl rfl))) pgs_mnil rfl) rfl) rfl rfl)) (fun _ _ _ _ _ => (pts_one (pt_mcmp (og_eq rm) (by first | rfl | exact nobehind _ (by decide) (by decide)) (pe_mV (i := 3) rfl (by (first | exact Or.inl rfl | exact Or.inr (Or.inl rfl) | exact Or.inr (Or.inr rfl))) (by decide) (by decide)) (pe_mV (i := 1) rfl (by (first | exact Or.inl rfl | exact Or.inr (Or.inl rfl) | exact Or.inr (Or.inr rfl))) (by decide) (by decide))))) (fun _ _ _ _ _ => (pe_mV (i := 2) rfl (by (first | exact Or.inl rfl | exact Or.inr (Or.inl rfl) | exact Or.inr (Or.inr rfl))) (by decide) (by decide))) (fun _ => rfl)) pa_mnil rfl) (by decide) (by decide) rfl rfl)))
theorem cal_ahead_of (bt : Bt mg) {f : Addr} {fd : FuncData} (F : FunD K "ahead_of" "ahead_of" (defArgs s_ahead_of) (defBody s_ahead_of) (defScope s_ahead_of) [] [] f fd) (hm : mg "ahead_of" = some (.ref f)) : CalG P w K mg base 8 "ahead_of" P_ahead_of F_ahead_of :=
  ⟨f, fd, ok_ahead_of bt F, hm, F.kp, F.bindsN fun _ _ _ _ _ _ us hl => match us, hl with | [_, _], _ => rfl⟩
abbrev s_follows : Stmt := top 27
def N_follows : List Str := ["runners", "reports", "found", "begin", "last", "rows", "late", "here", "there", "a", "b"]
def P_follows : List Str := ["runners", "reports"]
def follows_c1 : M := mLc 11 (mIt (mV 1)) (gTp 2 (gs1 (gNm (outs 11 [9, 10]) 9) (gs1 (gNm (outs 11 [9, 10]) 10) gs0))) (mOp2 gEq (mV 9) (mV 7)) (mV 10) [9, 10]
def follows_b1 : MS := (mIfS (mOp2 gNotInA (mV 8) (mV 5)) (mSeq (mAsg (gSbA (mV 5) (mV 8)) (mD (mOp2 gAdd (mGet2 (mV 5) (mD (mV 7)) (mLst [(mD (mV 3))])) (mLst [(mD (mV 8))]))))
    (mExpr (mOwn fAppend (mV 6) [(mD (mV 8))]))) mSkip)
def follows_l1 : MS := mFor (mIt (mSSA (follows_c1))) (gNm [0, 1] 8) follows_b1
def follows_b2 : MS := (follows_l1)
def follows_l2 : MS := mFor (mIt (mV 4)) (gNm [0, 1] 7) follows_b2
def follows_b3 : MS := (mSeq (mSet [0, 1] 6 (mLst []))
    (mSeq (follows_l2)
    (mSet [0, 1] 4 (mV 6))))
def follows_l3 : MS := mWhile (mOp2 gNe (mV 4) (mLst [])) follows_b3 100000
def follows_b4 : MS := (mSeq (mPar [0, 1] [4, 5] [(mFz (mLst [(mD (mV 3))])), (mFz (mDic))])
    (mSeq (follows_l3)
    (mAsg (gSbA (mV 2) (mV 3)) (mD (mV 5)))))
def follows_l4 : MS := mFor (mRange rg1 [(mV 0)]) (gNm [0, 1] 3) follows_b4
def m_follows : MS := (mSeq (mSet [0, 1] 2 (mDic))
    (mSeq (follows_l4)
    (mRet (mV 2))))
def F_follows : Fn := runF 11 [0, 1] m_follows
theorem sc_follows : FnScope N_follows P_follows (defScope s_follows) := ⟨rfl, rfl, rfl, by decide +kernel, rfl, by decide +kernel, by decide +kernel⟩
theorem ok_follows (bt : Bt mg) {f : Addr} {fd : FuncData} (F : FunD K "follows" "follows" (defArgs s_follows) (defBody s_follows) (defScope s_follows) [] [] f fd) : FnG P w K mg base 8 f fd P_follows (spF K 2 F_follows) :=
  fnG_of F sc_follows rfl fun cdv A fr s H E hr hgd =>
    have rm := rm_of hr hgd
    have S_nd := sc_follows.nd
    (pss_mcons (ps_mset (i := 2) S_nd rfl (by (first | exact Or.inl rfl | exact Or.inr rfl)) pe_mDic rfl (Or.inl rfl))
    (pss_mcons (ps_mfor (passes_of rfl) rfl (pi_mRange1 rfl bt.range (pa_mcons (pe_mV (i := 0) rfl (by (first | exact Or.inl rfl | exact Or.inr (Or.inl rfl) | exact Or.inr (Or.inr rfl))) (by decide) (by decide)) pa_mnil rfl) rfl) (pg_mname (i := 3) S_nd rfl (by (first | exact Or.inl rfl | exact Or.inr rfl)) (by (first | exact Or.inr rfl | exact Or.inl rfl))) (pss_mcons (ps_mpar2 (i := 4) (j := 5) rfl S_nd rfl rfl (by decide) rfl rfl (pa_mcons (pe_mFz (pe_mLst (pa_mcons (pe_mD (pe_mV (i := 3) rfl (by (first | exact Or.inl rfl | exact Or.inr (Or.inl rfl) | exact Or.inr (Or.inr rfl))) (by decide) (by decide))) pa_mnil rfl))) (pa_mcons (pe_mFz pe_mDic) pa_mnil rfl) rfl) rfl rfl)
    (pss_mcons (ps_mwhile (passes_of rfl) (pt_mcmp (og_ne rm) (by first | rfl | exact nobehind _ (by decide) (by decide)) (pe_mV (i := 4) rfl (by (first | exact Or.inl rfl | exact Or.inr (Or.inl rfl) | exact Or.inr (Or.inr rfl))) (by decide) (by decide)) (pe_mLst pa_mnil)) (pss_mcons (ps_mset (i := 6) S_nd rfl (by (first | exact Or.inl rfl | exact Or.inr rfl)) (pe_mLst pa_mnil) rfl (Or.inl rfl))
    (pss_mcons (ps_mfor (passes_of rfl) rfl (pi_mIt (pe_mV (i := 4) rfl (by (first | exact Or.inl rfl | exact Or.inr (Or.inl rfl) | exact Or.inr (Or.inr rfl))) (by decide) (by decide))) (pg_mname (i := 7) S_nd rfl (by (first | exact Or.inl rfl | exact Or.inr rfl)) (by (first | exact Or.inr rfl | exact Or.inl rfl))) (pss_mone (ps_mfor (passes_of rfl) rfl (pi_mIt (pe_mSSA rm rfl rfl bt.sorted rfl bt.set (pe_mLc (n := 11) (own := [("a", 9), ("b", 10)]) rfl S_nd (pi_mIt (pe_mV (i := 1) rfl (by (first | exact Or.inl rfl | exact Or.inr (Or.inl rfl) | exact Or.inr (Or.inr rfl))) (by decide) (by decide))) (blkOk_by (by kernel_rfl)) (fun _ _ _ _ _ => (pg_mtup (n := 2) rfl (pgs_mcons (pg_mname (i := 9) S_nd rfl (by (first | exact Or.inl rfl | exact Or.inr rfl)) (by (first | exact Or.inr rfl | exact Or.inl rfl))) (pgs_mcons (pg_mname (i := 10) S_nd rfl (by (first | exact Or.inl rfl | exact Or.inr rfl)) (by (first | exact Or.inr rfl | exact Or.inl rfl))) pgs_mnil rfl) rfl) rfl rfl)) (fun _ _ _ _ _ => (pts_one (pt_mcmp (og_eq rm) (by first | rfl | exact nobehind _ (by decide) (by decide)) (pe_mV (i := 9) rfl (by (first | exact Or.inl rfl | exact Or.inr (Or.inl rfl) | exact Or.inr (Or.inr rfl))) (by decide) (by decide)) (pe_mV (i := 7) rfl (by (first | exact Or.inl rfl | exact Or.inr (Or.inl rfl) | exact Or.inr (Or.inr rfl))) (by decide) (by decide))))) (fun _ _ _ _ _ => (pe_mV (i := 10) rfl (by (first | exact Or.inl rfl | exact Or.inr (Or.inl rfl) | exact Or.inr (Or.inr rfl))) (by decide) (by decide))) (fun _ => rfl)) rfl rfl rfl rfl)) (pg_mname (i := 8) S_nd rfl (by (first | exact Or.inl rfl | exact Or.inr rfl)) (by (first | exact Or.inr rfl | exact Or.inl rfl))) (pss_mone (ps_mif (pt_mcmp (og_notInA rm) (by first | rfl | exact nobehind _ (by decide) (by decide)) (pe_mV (i := 8) rfl (by (first | exact Or.inl rfl | exact Or.inr (Or.inl rfl) | exact Or.inr (Or.inr rfl))) (by decide) (by decide)) (pe_mV (i := 5) rfl (by (first | exact Or.inl rfl | exact Or.inr (Or.inl rfl) | exact Or.inr (Or.inr rfl))) (by decide) (by decide))) (pss_mcons (ps_masg (pe_mD (pe_mbin og_add (pe_mGet2 rm (pe_mV (i := 5) rfl (by (first | exact Or.inl rfl | exact Or.inr (Or.inl rfl) | exact Or.inr (Or.inr rfl))) (by decide) (by decide)) (pe_mD (pe_mV (i := 7) rfl (by (first | exact Or.inl rfl | exact Or.inr (Or.inl rfl) | exact Or.inr (Or.inr rfl))) (by decide) (by decide))) (pe_mLst (pa_mcons (pe_mD (pe_mV (i := 3) rfl (by (first | exact Or.inl rfl | exact Or.inr (Or.inl rfl) | exact Or.inr (Or.inr rfl))) (by decide) (by decide))) pa_mnil rfl)) ⟨rfl, rfl, rfl, rfl⟩) (pe_mLst (pa_mcons (pe_mD (pe_mV (i := 8) rfl (by (first | exact Or.inl rfl | exact Or.inr (Or.inl rfl) | exact Or.inr (Or.inr rfl))) (by decide) (by decide))) pa_mnil rfl)))) (pg_msubA rm (pe_mV (i := 5) rfl (by (first | exact Or.inl rfl | exact Or.inr (Or.inl rfl) | exact Or.inr (Or.inr rfl))) (by decide) (by decide)) (pe_mV (i := 8) rfl (by (first | exact Or.inl rfl | exact Or.inr (Or.inl rfl) | exact Or.inr (Or.inr rfl))) (by decide) (by decide)) (fun _ => rfl)) rfl rfl rfl)
    (pss_mone (ps_mexpr (pe_mOwn PySem.F.slot_list_append PySem.F.type_list_append mt_oAppend (pe_mV (i := 6) rfl (by (first | exact Or.inl rfl | exact Or.inr (Or.inl rfl) | exact Or.inr (Or.inr rfl))) (by decide) (by decide)) (pa_mcons (pe_mD (pe_mV (i := 8) rfl (by (first | exact Or.inl rfl | exact Or.inr (Or.inl rfl) | exact Or.inr (Or.inr rfl))) (by decide) (by decide))) pa_mnil rfl) rfl rfl rfl rfl rfl) rfl))) pss_mnil)) (fun _ => rfl))) (fun _ => rfl))
    (pss_mone (ps_mset (i := 4) S_nd rfl (by (first | exact Or.inl rfl | exact Or.inr rfl)) (pe_mV (i := 6) rfl (by (first | exact Or.inl rfl | exact Or.inr (Or.inl rfl) | exact Or.inr (Or.inr rfl))) (by decide) (by decide)) rfl (Or.inl rfl))))))
    (pss_mone (ps_masg (pe_mD (pe_mV (i := 5) rfl (by (first | exact Or.inl rfl | exact Or.inr (Or.inl rfl) | exact Or.inr (Or.inr rfl))) (by decide) (by decide))) (pg_msubA rm (pe_mV (i := 2) rfl (by (first | exact Or.inl rfl | exact Or.inr (Or.inl rfl) | exact Or.inr (Or.inr rfl))) (by decide) (by decide)) (pe_mV (i := 3) rfl (by (first | exact Or.inl rfl | exact Or.inr (Or.inl rfl) | exact Or.inr (Or.inr rfl))) (by decide) (by decide)) (fun _ => rfl)) rfl rfl rfl)))) (fun _ => rfl))
    (pss_mone (ps_mret (pe_mV (i := 2) rfl (by (first | exact Or.inl rfl | exact Or.inr (Or.inl rfl) | exact Or.inr (Or.inr rfl))) (by decide) (by decide))))))
theorem cal_follows (bt : Bt mg) {f : Addr} {fd : FuncData} (F : FunD K "follows" "follows" (defArgs s_follows) (defBody s_follows) (defScope s_follows) [] [] f fd) (hm : mg "follows" = some (.ref f)) : CalG P w K mg base 8 "follows" P_follows F_follows :=
  ⟨f, fd, ok_follows bt F, hm, F.kp, F.bindsN fun _ _ _ _ _ _ us hl => match us, hl with | [_, _], _ => rfl⟩
abbrev s_closed_by : Stmt := top 28
def N_closed_by : List Str := ["runners", "reports", "rows", "found", "begin", "there"]
def P_closed_by : List Str := ["runners", "reports"]
def closed_by_c1 : M := mLc 6 (mIt (mB gSortedA [(mIxA (mV 2) (mV 4))])) (gNm (outs 6 [5]) 5) mYes (mTup [(mD (mV 4)), (mD (mV 5))]) [5]
def closed_by_b1 : MS := (mExpr (mExt (mV 3) (closed_by_c1)))
def closed_by_l1 : MS := mFor (mRange rg1 [(mV 0)]) (gNm [0, 1] 4) closed_by_b1
def m_closed_by : MS := (mSeq (mPar [0, 1] [2, 3] [(mFz (mCall F_follows [(mV 0), (mV 1)])), (mFz (mLst []))])
    (mSeq (closed_by_l1)
    (mRet (mV 3))))
def F_closed_by : Fn := runF 6 [0, 1] m_closed_by
theorem sc_closed_by : FnScope N_closed_by P_closed_by (defScope s_closed_by) := ⟨rfl, rfl, rfl, by decide +kernel, rfl, by decide +kernel, by decide +kernel⟩
theorem ok_closed_by (bt : Bt mg) (c_follows : CalG P w K mg base 8 "follows" P_follows F_follows) {f : Addr} {fd : FuncData} (F : FunD K "closed_by" "closed_by" (defArgs s_closed_by) (defBody s_closed_by) (defScope s_closed_by) [] [] f fd) : FnG P w K mg base 9 f fd P_closed_by (spF K 2 F_closed_by) :=
  fnG_of F sc_closed_by rfl fun cdv A fr s H E hr hgd =>
    have rm := rm_of hr hgd
    have S_nd := sc_closed_by.nd
    (pss_mcons (ps_mpar2 (i := 2) (j := 3) rfl S_nd rfl rfl (by decide) rfl rfl (pa_mcons (pe_mFz (pe_mCall c_follows hr (by decide) hgd rfl rfl (pa_mcons (pe_mV (i := 0) rfl (by (first | exact Or.inl rfl | exact Or.inr (Or.inl rfl) | exact Or.inr (Or.inr rfl))) (by decide) (by decide)) (pa_mcons (pe_mV (i := 1) rfl (by (first | exact Or.inl rfl | exact Or.inr (Or.inl rfl) | exact Or.inr (Or.inr rfl))) (by decide) (by decide)) pa_mnil rfl) rfl) (by decide) rfl rfl)) (pa_mcons (pe_mFz (pe_mLst pa_mnil)) pa_mnil rfl) rfl) rfl rfl)
    (pss_mcons (ps_mfor (passes_of rfl) rfl (pi_mRange1 rfl bt.range (pa_mcons (pe_mV (i := 0) rfl (by (first | exact Or.inl rfl | exact Or.inr (Or.inl rfl) | exact Or.inr (Or.inr rfl))) (by decide) (by decide)) pa_mnil rfl) rfl) (pg_mname (i := 4) S_nd rfl (by (first | exact Or.inl rfl | exact Or.inr rfl)) (by (first | exact Or.inr rfl | exact Or.inl rfl))) (pss_mone (ps_mexpr (pe_mExt (pe_mV (i := 3) rfl (by (first | exact Or.inl rfl | exact Or.inr (Or.inl rfl) | exact Or.inr (Or.inr rfl))) (by decide) (by decide)) (pe_mLc (n := 6) (own := [("there", 5)]) rfl S_nd (pi_mIt (pe_mB (cg_sortedA rm rfl) rfl bt.sorted (by decide +kernel) (pa_mcons (pe_mIxA rm (pe_mV (i := 2) rfl (by (first | exact Or.inl rfl | exact Or.inr (Or.inl rfl) | exact Or.inr (Or.inr rfl))) (by decide) (by decide)) (pe_mV (i := 4) rfl (by (first | exact Or.inl rfl | exact Or.inr (Or.inl rfl) | exact Or.inr (Or.inr rfl))) (by decide) (by decide)) (fun _ _ => rfl)) pa_mnil rfl) (by decide) (by decide) rfl rfl)) (blkOk_by (by kernel_rfl)) (fun _ _ _ _ _ => (pg_mname (i := 5) S_nd rfl (by (first | exact Or.inl rfl | exact Or.inr rfl)) (by (first | exact Or.inr rfl | exact Or.inl rfl)))) (fun _ _ _ _ _ => pts_mnil) (fun _ _ _ _ _ => (pe_mTup (pa_mcons (pe_mD (pe_mV (i := 4) rfl (by (first | exact Or.inl rfl | exact Or.inr (Or.inl rfl) | exact Or.inr (Or.inr rfl))) (by decide) (by decide))) (pa_mcons (pe_mD (pe_mV (i := 5) rfl (by (first | exact Or.inl rfl | exact Or.inr (Or.inl rfl) | exact Or.inr (Or.inr rfl))) (by decide) (by decide))) pa_mnil rfl) rfl))) (fun _ => rfl)) rfl rfl rfl rfl rfl) rfl)) (fun _ => rfl))
    (pss_mone (ps_mret (pe_mV (i := 3) rfl (by (first | exact Or.inl rfl | exact Or.inr (Or.inl rfl) | exact Or.inr (Or.inr rfl))) (by decide) (by decide))))))
theorem cal_closed_by (bt : Bt mg) (c_follows : CalG P w K mg base 8 "follows" P_follows F_follows) {f : Addr} {fd : FuncData} (F : FunD K "closed_by" "closed_by" (defArgs s_closed_by) (defBody s_closed_by) (defScope s_closed_by) [] [] f fd) (hm : mg "closed_by" = some (.ref f)) : CalG P w K mg base 9 "closed_by" P_closed_by F_closed_by :=
  ⟨f, fd, ok_closed_by bt c_follows F, hm, F.kp, F.bindsN fun _ _ _ _ _ _ us hl => match us, hl with | [_, _], _ => rfl⟩
abbrev s_are_apart : Stmt := top 29
def N_are_apart : List Str := ["order", "one", "other"]
def P_are_apart : List Str := ["order", "one", "other"]
def m_are_apart : MS := (mRet ((mAnd (mOp2 gNe (mV 1) (mV 2)) (mAnd (mOp2 gNotInA (mTup [(mD (mV 1)), (mD (mV 2))]) (mIxA (mV 0) (mK (.int 2)))) (mOp2 gNotInA (mTup [(mD (mV 2)), (mD (mV 1))]) (mIxA (mV 0) (mK (.int 2))))))))
def F_are_apart : Fn := runF 3 [0, 1, 2] m_are_apart
theorem sc_are_apart : FnScope N_are_apart P_are_apart (defScope s_are_apart) := ⟨rfl, rfl, rfl, by decide +kernel, rfl, by decide +kernel, by decide +kernel⟩
theorem ok_are_apart (bt : Bt mg) {f : Addr} {fd : FuncData} (F : FunD K "are_apart" "are_apart" (defArgs s_are_apart) (defBody s_are_apart) (defScope s_are_apart) [] [] f fd) : FnG P w K mg base 8 f fd P_are_apart (spF K 3 F_are_apart) :=
  fnG_of F sc_are_apart rfl fun cdv A fr s H E hr hgd =>
    have rm := rm_of hr hgd
    have S_nd := sc_are_apart.nd
    (pss_mone (ps_mret (pe_mand (pe_mcmp (og_ne rm) (by first | rfl | exact nobehind _ (by decide) (by decide)) (pe_mV (i := 1) rfl (by (first | exact Or.inl rfl | exact Or.inr (Or.inl rfl) | exact Or.inr (Or.inr rfl))) (by decide) (by decide)) (pe_mV (i := 2) rfl (by (first | exact Or.inl rfl | exact Or.inr (Or.inl rfl) | exact Or.inr (Or.inr rfl))) (by decide) (by decide))) (pe_mand (pe_mcmp (og_notInA rm) (by first | rfl | exact nobehind _ (by decide) (by decide)) (pe_mTup (pa_mcons (pe_mD (pe_mV (i := 1) rfl (by (first | exact Or.inl rfl | exact Or.inr (Or.inl rfl) | exact Or.inr (Or.inr rfl))) (by decide) (by decide))) (pa_mcons (pe_mD (pe_mV (i := 2) rfl (by (first | exact Or.inl rfl | exact Or.inr (Or.inl rfl) | exact Or.inr (Or.inr rfl))) (by decide) (by decide))) pa_mnil rfl) rfl)) (pe_mIxA rm (pe_mV (i := 0) rfl (by (first | exact Or.inl rfl | exact Or.inr (Or.inl rfl) | exact Or.inr (Or.inr rfl))) (by decide) (by decide)) pe_mint (fun _ _ => rfl))) (pe_mone (pe_mcmp (og_notInA rm) (by first | rfl | exact nobehind _ (by decide) (by decide)) (pe_mTup (pa_mcons (pe_mD (pe_mV (i := 2) rfl (by (first | exact Or.inl rfl | exact Or.inr (Or.inl rfl) | exact Or.inr (Or.inr rfl))) (by decide) (by decide))) (pa_mcons (pe_mD (pe_mV (i := 1) rfl (by (first | exact Or.inl rfl | exact Or.inr (Or.inl rfl) | exact Or.inr (Or.inr rfl))) (by decide) (by decide))) pa_mnil rfl) rfl)) (pe_mIxA rm (pe_mV (i := 0) rfl (by (first | exact Or.inl rfl | exact Or.inr (Or.inl rfl) | exact Or.inr (Or.inr rfl))) (by decide) (by decide)) pe_mint (fun _ _ => rfl))))))))
theorem cal_are_apart (bt : Bt mg) {f : Addr} {fd : FuncData} (F : FunD K "are_apart" "are_apart" (defArgs s_are_apart) (defBody s_are_apart) (defScope s_are_apart) [] [] f fd) (hm : mg "are_apart" = some (.ref f)) : CalG P w K mg base 8 "are_apart" P_are_apart F_are_apart :=
  ⟨f, fd, ok_are_apart bt F, hm, F.kp, F.bindsN fun _ _ _ _ _ _ us hl => match us, hl with | [_, _, _], _ => rfl⟩
abbrev s_apart_pairs : Stmt := top 30
def N_apart_pairs : List Str := ["order", "found", "one", "other"]
def P_apart_pairs : List Str := ["order"]
def apart_pairs_c1 : M := mLc 4 (mRange rg2 [(mOp2 gAdd (mV 2) (mK (.int 1))), (mIxA (mV 0) (mK (.int 1)))]) (gNm (outs 4 [3]) 3) (mCall F_are_apart [(mV 0), (mV 2), (mV 3)]) (mTup [(mD (mV 2)), (mD (mV 3))]) [3]
def apart_pairs_b1 : MS := (mExpr (mExt (mV 1) (apart_pairs_c1)))
def apart_pairs_l1 : MS := mFor (mRange rg1 [(mIxA (mV 0) (mK (.int 1)))]) (gNm [0] 2) apart_pairs_b1
def m_apart_pairs : MS := (mSeq (mSet [0] 1 (mLst []))
    (mSeq (apart_pairs_l1)
    (mRet (mV 1))))
def F_apart_pairs : Fn := runF 4 [0] m_apart_pairs
theorem sc_apart_pairs : FnScope N_apart_pairs P_apart_pairs (defScope s_apart_pairs) := ⟨rfl, rfl, rfl, by decide +kernel, rfl, by decide +kernel, by decide +kernel⟩
theorem ok_apart_pairs (bt : Bt mg) (c_are_apart : CalG P w K mg base 8 "are_apart" P_are_apart F_are_apart) {f : Addr} {fd : FuncData} (F : FunD K "apart_pairs" "apart_pairs" (defArgs s_apart_pairs) (defBody s_apart_pairs) (defScope s_apart_pairs) [] [] f fd) : FnG P w K mg base 9 f fd P_apart_pairs (spF K 1 F_apart_pairs) :=
  fnG_of F sc_apart_pairs rfl fun cdv A fr s H E hr hgd =>
    have rm := rm_of hr hgd
    have S_nd := sc_apart_pairs.nd
    (pss_mcons (ps_mset (i := 1) S_nd rfl (by (first | exact Or.inl rfl | exact Or.inr rfl)) (pe_mLst pa_mnil) rfl (Or.inl rfl))
    (pss_mcons (ps_mfor (passes_of rfl) rfl (pi_mRange1 rfl bt.range (pa_mcons (pe_mIxA rm (pe_mV (i := 0) rfl (by (first | exact Or.inl rfl | exact Or.inr (Or.inl rfl) | exact Or.inr (Or.inr rfl))) (by decide) (by decide)) pe_mint (fun _ _ => rfl)) pa_mnil rfl) rfl) (pg_mname (i := 2) S_nd rfl (by (first | exact Or.inl rfl | exact Or.inr rfl)) (by (first | exact Or.inr rfl | exact Or.inl rfl))) (pss_mone (ps_mexpr (pe_mExt (pe_mV (i := 1) rfl (by (first | exact Or.inl rfl | exact Or.inr (Or.inl rfl) | exact Or.inr (Or.inr rfl))) (by decide) (by decide)) (pe_mLc (n := 4) (own := [("other", 3)]) rfl S_nd (pi_mRange2 rfl bt.range (pa_mcons (pe_mbin og_add (pe_mV (i := 2) rfl (by (first | exact Or.inl rfl | exact Or.inr (Or.inl rfl) | exact Or.inr (Or.inr rfl))) (by decide) (by decide)) pe_mint) (pa_mcons (pe_mIxA rm (pe_mV (i := 0) rfl (by (first | exact Or.inl rfl | exact Or.inr (Or.inl rfl) | exact Or.inr (Or.inr rfl))) (by decide) (by decide)) pe_mint (fun _ _ => rfl)) pa_mnil rfl) rfl) rfl rfl) (blkOk_by (by kernel_rfl)) (fun _ _ _ _ _ => (pg_mname (i := 3) S_nd rfl (by (first | exact Or.inl rfl | exact Or.inr rfl)) (by (first | exact Or.inr rfl | exact Or.inl rfl)))) (fun _ _ _ _ _ => (pts_one (pt_mval (pe_mCall c_are_apart hr (by decide) hgd rfl rfl (pa_mcons (pe_mV (i := 0) rfl (by (first | exact Or.inl rfl | exact Or.inr (Or.inl rfl) | exact Or.inr (Or.inr rfl))) (by decide) (by decide)) (pa_mcons (pe_mV (i := 2) rfl (by (first | exact Or.inl rfl | exact Or.inr (Or.inl rfl) | exact Or.inr (Or.inr rfl))) (by decide) (by decide)) (pa_mcons (pe_mV (i := 3) rfl (by (first | exact Or.inl rfl | exact Or.inr (Or.inl rfl) | exact Or.inr (Or.inr rfl))) (by decide) (by decide)) pa_mnil rfl) rfl) rfl) (by decide) rfl rfl) (fun _ => rfl)))) (fun _ _ _ _ _ => (pe_mTup (pa_mcons (pe_mD (pe_mV (i := 2) rfl (by (first | exact Or.inl rfl | exact Or.inr (Or.inl rfl) | exact Or.inr (Or.inr rfl))) (by decide) (by decide))) (pa_mcons (pe_mD (pe_mV (i := 3) rfl (by (first | exact Or.inl rfl | exact Or.inr (Or.inl rfl) | exact Or.inr (Or.inr rfl))) (by decide) (by decide))) pa_mnil rfl) rfl))) (fun _ => rfl)) rfl rfl rfl rfl rfl) rfl)) (fun _ => rfl))
    (pss_mone (ps_mret (pe_mV (i := 1) rfl (by (first | exact Or.inl rfl | exact Or.inr (Or.inl rfl) | exact Or.inr (Or.inr rfl))) (by decide) (by decide))))))
theorem cal_apart_pairs (bt : Bt mg) (c_are_apart : CalG P w K mg base 8 "are_apart" P_are_apart F_are_apart) {f : Addr} {fd : FuncData} (F : FunD K "apart_pairs" "apart_pairs" (defArgs s_apart_pairs) (defBody s_apart_pairs) (defScope s_apart_pairs) [] [] f fd) (hm : mg "apart_pairs" = some (.ref f)) : CalG P w K mg base 9 "apart_pairs" P_apart_pairs F_apart_pairs :=
  ⟨f, fd, ok_apart_pairs bt c_are_apart F, hm, F.kp, F.bindsN fun _ _ _ _ _ _ us hl => match us, hl with | [_], _ => rfl⟩
abbrev s_neighbours_of : Stmt := top 31
def N_neighbours_of : List Str := ["order", "found", "a", "b", "c"]
def P_neighbours_of : List Str := ["order"]
def neighbours_of_c1 : M := mLc 5 (mRange rg1 [(mIxA (mV 0) (mK (.int 1)))]) (gNm (outs 5 [4]) 4) mYes ((mAnd (mOp2 gInA (mTup [(mD (mV 2)), (mD (mV 4))]) (mIxA (mV 0) (mK (.int 2)))) (mOp2 gInA (mTup [(mD (mV 4)), (mD (mV 3))]) (mIxA (mV 0) (mK (.int 2)))))) [4]
def neighbours_of_b1 : MS := (mIfS (mNot (mB gAny [(neighbours_of_c1)])) (mExpr (mOwn fAppend (mV 1) [(mD (mTup [(mD (mV 2)), (mD (mV 3))]))])) mSkip)
def neighbours_of_l1 : MS := mFor (mIt (mIxA (mV 0) (mK (.int 2)))) (gTp 2 (gs1 (gNm [0] 2) (gs1 (gNm [0] 3) gs0))) neighbours_of_b1
def m_neighbours_of : MS := (mSeq (mSet [0] 1 (mLst []))
    (mSeq (neighbours_of_l1)
    (mRet (mV 1))))
def F_neighbours_of : Fn := runF 5 [0] m_neighbours_of
theorem sc_neighbours_of : FnScope N_neighbours_of P_neighbours_of (defScope s_neighbours_of) := ⟨rfl, rfl, rfl, by decide +kernel, rfl, by decide +kernel, by decide +kernel⟩
theorem ok_neighbours_of (bt : Bt mg) {f : Addr} {fd : FuncData} (F : FunD K "neighbours_of" "neighbours_of" (defArgs s_neighbours_of) (defBody s_neighbours_of) (defScope s_neighbours_of) [] [] f fd) : FnG P w K mg base 8 f fd P_neighbours_of (spF K 1 F_neighbours_of) :=
  fnG_of F sc_neighbours_of rfl fun cdv A fr s H E hr hgd =>
    have rm := rm_of hr hgd
    have S_nd := sc_neighbours_of.nd
    (pss_mcons (ps_mset (i := 1) S_nd rfl (by (first | exact Or.inl rfl | exact Or.inr rfl)) (pe_mLst pa_mnil) rfl (Or.inl rfl))
    (pss_mcons (ps_mfor (passes_of rfl) rfl (pi_mIt (pe_mIxA rm (pe_mV (i := 0) rfl (by (first | exact Or.inl rfl | exact Or.inr (Or.inl rfl) | exact Or.inr (Or.inr rfl))) (by decide) (by decide)) pe_mint (fun _ _ => rfl))) (pg_mtup (n := 2) rfl (pgs_mcons (pg_mname (i := 2) S_nd rfl (by (first | exact Or.inl rfl | exact Or.inr rfl)) (by (first | exact Or.inr rfl | exact Or.inl rfl))) (pgs_mcons (pg_mname (i := 3) S_nd rfl (by (first | exact Or.inl rfl | exact Or.inr rfl)) (by (first | exact Or.inr rfl | exact Or.inl rfl))) pgs_mnil rfl) rfl) rfl rfl) (pss_mone (ps_mif (pt_mnot (pt_mval (pe_mB (cg_any rfl) rfl bt.any (by decide +kernel) (pa_mcons (pe_mLc (n := 5) (own := [("c", 4)]) rfl S_nd (pi_mRange1 rfl bt.range (pa_mcons (pe_mIxA rm (pe_mV (i := 0) rfl (by (first | exact Or.inl rfl | exact Or.inr (Or.inl rfl) | exact Or.inr (Or.inr rfl))) (by decide) (by decide)) pe_mint (fun _ _ => rfl)) pa_mnil rfl) rfl) (blkOk_by (by kernel_rfl)) (fun _ _ _ _ _ => (pg_mname (i := 4) S_nd rfl (by (first | exact Or.inl rfl | exact Or.inr rfl)) (by (first | exact Or.inr rfl | exact Or.inl rfl)))) (fun _ _ _ _ _ => pts_mnil) (fun _ _ _ _ _ => (pe_mand (pe_mcmp (og_inA rm) (by first | rfl | exact nobehind _ (by decide) (by decide)) (pe_mTup (pa_mcons (pe_mD (pe_mV (i := 2) rfl (by (first | exact Or.inl rfl | exact Or.inr (Or.inl rfl) | exact Or.inr (Or.inr rfl))) (by decide) (by decide))) (pa_mcons (pe_mD (pe_mV (i := 4) rfl (by (first | exact Or.inl rfl | exact Or.inr (Or.inl rfl) | exact Or.inr (Or.inr rfl))) (by decide) (by decide))) pa_mnil rfl) rfl)) (pe_mIxA rm (pe_mV (i := 0) rfl (by (first | exact Or.inl rfl | exact Or.inr (Or.inl rfl) | exact Or.inr (Or.inr rfl))) (by decide) (by decide)) pe_mint (fun _ _ => rfl))) (pe_mone (pe_mcmp (og_inA rm) (by first | rfl | exact nobehind _ (by decide) (by decide)) (pe_mTup (pa_mcons (pe_mD (pe_mV (i := 4) rfl (by (first | exact Or.inl rfl | exact Or.inr (Or.inl rfl) | exact Or.inr (Or.inr rfl))) (by decide) (by decide))) (pa_mcons (pe_mD (pe_mV (i := 3) rfl (by (first | exact Or.inl rfl | exact Or.inr (Or.inl rfl) | exact Or.inr (Or.inr rfl))) (by decide) (by decide))) pa_mnil rfl) rfl)) (pe_mIxA rm (pe_mV (i := 0) rfl (by (first | exact Or.inl rfl | exact Or.inr (Or.inl rfl) | exact Or.inr (Or.inr rfl))) (by decide) (by decide)) pe_mint (fun _ _ => rfl)))))) (fun _ => rfl)) pa_mnil rfl) (by decide) (by decide) rfl rfl) (fun _ => rfl))) (pss_mone (ps_mexpr (pe_mOwn PySem.F.slot_list_append PySem.F.type_list_append mt_oAppend (pe_mV (i := 1) rfl (by (first | exact Or.inl rfl | exact Or.inr (Or.inl rfl) | exact Or.inr (Or.inr rfl))) (by decide) (by decide)) (pa_mcons (pe_mD (pe_mTup (pa_mcons (pe_mD (pe_mV (i := 2) rfl (by (first | exact Or.inl rfl | exact Or.inr (Or.inl rfl) | exact Or.inr (Or.inr rfl))) (by decide) (by decide))) (pa_mcons (pe_mD (pe_mV (i := 3) rfl (by (first | exact Or.inl rfl | exact Or.inr (Or.inl rfl) | exact Or.inr (Or.inr rfl))) (by decide) (by decide))) pa_mnil rfl) rfl))) pa_mnil rfl) rfl rfl rfl rfl rfl) rfl)) pss_mnil)) (fun _ => rfl))
    (pss_mone (ps_mret (pe_mV (i := 1) rfl (by (first | exact Or.inl rfl | exact Or.inr (Or.inl rfl) | exact Or.inr (Or.inr rfl))) (by decide) (by decide))))))
theorem cal_neighbours_of (bt : Bt mg) {f : Addr} {fd : FuncData} (F : FunD K "neighbours_of" "neighbours_of" (defArgs s_neighbours_of) (defBody s_neighbours_of) (defScope s_neighbours_of) [] [] f fd) (hm : mg "neighbours_of" = some (.ref f)) : CalG P w K mg base 8 "neighbours_of" P_neighbours_of F_neighbours_of :=
  ⟨f, fd, ok_neighbours_of bt F, hm, F.kp, F.bindsN fun _ _ _ _ _ _ us hl => match us, hl with | [_], _ => rfl⟩
abbrev s_is_order : Stmt := top 32
def N_is_order : List Str := ["value"]
def P_is_order : List Str := ["value"]
def m_is_order : MS := (mRet (mCall F_is_order_value [(mV 0)]))
def F_is_order : Fn := runF 1 [0] m_is_order
theorem sc_is_order : FnScope N_is_order P_is_order (defScope s_is_order) := ⟨rfl, rfl, rfl, by decide +kernel, rfl, by decide +kernel, by decide +kernel⟩
theorem ok_is_order (bt : Bt mg) (c_is_order_value : CalG P w K mg base 11 "is_order_value" P_is_order_value F_is_order_value) {f : Addr} {fd : FuncData} (F : FunD K "is_order" "is_order" (defArgs s_is_order) (defBody s_is_order) (defScope s_is_order) [] [] f fd) : FnG P w K mg base 12 f fd P_is_order (spF K 1 F_is_order) :=
  fnG_of F sc_is_order rfl fun cdv A fr s H E hr hgd =>
    have rm := rm_of hr hgd
    have S_nd := sc_is_order.nd
    (pss_mone (ps_mret (pe_mCall c_is_order_value hr (by decide) hgd rfl rfl (pa_mcons (pe_mV (i := 0) rfl (by (first | exact Or.inl rfl | exact Or.inr (Or.inl rfl) | exact Or.inr (Or.inr rfl))) (by decide) (by decide)) pa_mnil rfl) (by decide) rfl rfl)))
theorem cal_is_order (bt : Bt mg) (c_is_order_value : CalG P w K mg base 11 "is_order_value" P_is_order_value F_is_order_value) {f : Addr} {fd : FuncData} (F : FunD K "is_order" "is_order" (defArgs s_is_order) (defBody s_is_order) (defScope s_is_order) [] [] f fd) (hm : mg "is_order" = some (.ref f)) : CalG P w K mg base 12 "is_order" P_is_order F_is_order :=
  ⟨f, fd, ok_is_order bt c_is_order_value F, hm, F.kp, F.bindsN fun _ _ _ _ _ _ us hl => match us, hl with | [_], _ => rfl⟩
abbrev s_order_of : Stmt := top 33
def N_order_of : List Str := ["runners", "reports", "pairs", "a", "b"]
def P_order_of : List Str := ["runners", "reports"]
def order_of_c1 : M := mLc 5 (mIt (mV 2)) (gTp 2 (gs1 (gNm (outs 5 [3, 4]) 3) (gs1 (gNm (outs 5 [3, 4]) 4) gs0))) mYes (mOp2 gEq (mV 3) (mV 4)) [3, 4]
def m_order_of : MS := (mSeq (mExpr (mCall F_want_reports [(mV 0), (mV 1)]))
    (mSeq (mSet [0, 1] 2 (mCall F_closed_by [(mV 0), (mV 1)]))
    (mRet (mIf (mB gAny [(order_of_c1)]) (mK .none) (mCall F_made [(mV 0), (mV 2)])))))
def F_order_of : Fn := runF 5 [0, 1] m_order_of
theorem sc_order_of : FnScope N_order_of P_order_of (defScope s_order_of) := ⟨rfl, rfl, rfl, by decide +kernel, rfl, by decide +kernel, by decide +kernel⟩
theorem ok_order_of (bt : Bt mg) (c_want_reports : CalG P w K mg base 12 "want_reports" P_want_reports F_want_reports) (c_closed_by : CalG P w K mg base 9 "closed_by" P_closed_by F_closed_by) (c_made : CalG P w K mg base 8 "made" P_made F_made) {f : Addr} {fd : FuncData} (F : FunD K "order_of" "order_of" (defArgs s_order_of) (defBody s_order_of) (defScope s_order_of) [] [] f fd) : FnG P w K mg base 13 f fd P_order_of (spF K 2 F_order_of) :=
  fnG_of F sc_order_of rfl fun cdv A fr s H E hr hgd =>
    have rm := rm_of hr hgd
    have S_nd := sc_order_of.nd
    (pss_mcons (ps_mexpr (pe_mCall c_want_reports hr (by decide) hgd rfl rfl (pa_mcons (pe_mV (i := 0) rfl (by (first | exact Or.inl rfl | exact Or.inr (Or.inl rfl) | exact Or.inr (Or.inr rfl))) (by decide) (by decide)) (pa_mcons (pe_mV (i := 1) rfl (by (first | exact Or.inl rfl | exact Or.inr (Or.inl rfl) | exact Or.inr (Or.inr rfl))) (by decide) (by decide)) pa_mnil rfl) rfl) (by decide) rfl rfl) rfl)
    (pss_mcons (ps_mset (i := 2) S_nd rfl (by (first | exact Or.inl rfl | exact Or.inr rfl)) (pe_mCall c_closed_by hr (by decide) hgd rfl rfl (pa_mcons (pe_mV (i := 0) rfl (by (first | exact Or.inl rfl | exact Or.inr (Or.inl rfl) | exact Or.inr (Or.inr rfl))) (by decide) (by decide)) (pa_mcons (pe_mV (i := 1) rfl (by (first | exact Or.inl rfl | exact Or.inr (Or.inl rfl) | exact Or.inr (Or.inr rfl))) (by decide) (by decide)) pa_mnil rfl) rfl) (by decide) rfl rfl) rfl (Or.inl rfl))
    (pss_mone (ps_mret (pe_mif (pt_mval (pe_mB (cg_any rfl) rfl bt.any (by decide +kernel) (pa_mcons (pe_mLc (n := 5) (own := [("a", 3), ("b", 4)]) rfl S_nd (pi_mIt (pe_mV (i := 2) rfl (by (first | exact Or.inl rfl | exact Or.inr (Or.inl rfl) | exact Or.inr (Or.inr rfl))) (by decide) (by decide))) (blkOk_by (by kernel_rfl)) (fun _ _ _ _ _ => (pg_mtup (n := 2) rfl (pgs_mcons (pg_mname (i := 3) S_nd rfl (by (first | exact Or.inl rfl | exact Or.inr rfl)) (by (first | exact Or.inr rfl | exact Or.inl rfl))) (pgs_mcons (pg_mname (i := 4) S_nd rfl (by (first | exact Or.inl rfl | exact Or.inr rfl)) (by (first | exact Or.inr rfl | exact Or.inl rfl))) pgs_mnil rfl) rfl) rfl rfl)) (fun _ _ _ _ _ => pts_mnil) (fun _ _ _ _ _ => (pe_mcmp (og_eq rm) (by first | rfl | exact nobehind _ (by decide) (by decide)) (pe_mV (i := 3) rfl (by (first | exact Or.inl rfl | exact Or.inr (Or.inl rfl) | exact Or.inr (Or.inr rfl))) (by decide) (by decide)) (pe_mV (i := 4) rfl (by (first | exact Or.inl rfl | exact Or.inr (Or.inl rfl) | exact Or.inr (Or.inr rfl))) (by decide) (by decide)))) (fun _ => rfl)) pa_mnil rfl) (by decide) (by decide) rfl rfl) (fun _ => rfl)) pe_mnon (pe_mCall c_made hr (by decide) hgd rfl rfl (pa_mcons (pe_mV (i := 0) rfl (by (first | exact Or.inl rfl | exact Or.inr (Or.inl rfl) | exact Or.inr (Or.inr rfl))) (by decide) (by decide)) (pa_mcons (pe_mV (i := 2) rfl (by (first | exact Or.inl rfl | exact Or.inr (Or.inl rfl) | exact Or.inr (Or.inr rfl))) (by decide) (by decide)) pa_mnil rfl) rfl) (by decide) rfl rfl))))))
theorem cal_order_of (bt : Bt mg) (c_want_reports : CalG P w K mg base 12 "want_reports" P_want_reports F_want_reports) (c_closed_by : CalG P w K mg base 9 "closed_by" P_closed_by F_closed_by) (c_made : CalG P w K mg base 8 "made" P_made F_made) {f : Addr} {fd : FuncData} (F : FunD K "order_of" "order_of" (defArgs s_order_of) (defBody s_order_of) (defScope s_order_of) [] [] f fd) (hm : mg "order_of" = some (.ref f)) : CalG P w K mg base 13 "order_of" P_order_of F_order_of :=
  ⟨f, fd, ok_order_of bt c_want_reports c_closed_by c_made F, hm, F.kp, F.bindsN fun _ _ _ _ _ _ us hl => match us, hl with | [_, _], _ => rfl⟩
abbrev s_why : Stmt := top 34
def N_why : List Str := ["runners", "reports", "pair"]
def P_why : List Str := ["runners", "reports", "pair"]
def m_why : MS := (mSeq (mExpr (mCall F_want_reports [(mV 0), (mV 1)]))
    (mSeq (mExpr (mCall F_want_pair [(mV 0), (mV 2)]))
    (mRet (mGet2 (mIxA (mCall F_follows [(mV 0), (mV 1)]) (mIxA (mV 2) (mK (.int 0)))) (mD (mIxA (mV 2) (mK (.int 1)))) (mK .none)))))
def F_why : Fn := runF 3 [0, 1, 2] m_why
theorem sc_why : FnScope N_why P_why (defScope s_why) := ⟨rfl, rfl, rfl, by decide +kernel, rfl, by decide +kernel, by decide +kernel⟩
theorem ok_why (bt : Bt mg) (c_want_reports : CalG P w K mg base 12 "want_reports" P_want_reports F_want_reports) (c_want_pair : CalG P w K mg base 11 "want_pair" P_want_pair F_want_pair) (c_follows : CalG P w K mg base 8 "follows" P_follows F_follows) {f : Addr} {fd : FuncData} (F : FunD K "why" "why" (defArgs s_why) (defBody s_why) (defScope s_why) [] [] f fd) : FnG P w K mg base 13 f fd P_why (spF K 3 F_why) :=
  fnG_of F sc_why rfl fun cdv A fr s H E hr hgd =>
    have rm := rm_of hr hgd
    have S_nd := sc_why.nd
    (pss_mcons (ps_mexpr (pe_mCall c_want_reports hr (by decide) hgd rfl rfl (pa_mcons (pe_mV (i := 0) rfl (by (first | exact Or.inl rfl | exact Or.inr (Or.inl rfl) | exact Or.inr (Or.inr rfl))) (by decide) (by decide)) (pa_mcons (pe_mV (i := 1) rfl (by (first | exact Or.inl rfl | exact Or.inr (Or.inl rfl) | exact Or.inr (Or.inr rfl))) (by decide) (by decide)) pa_mnil rfl) rfl) (by decide) rfl rfl) rfl)
    (pss_mcons (ps_mexpr (pe_mCall c_want_pair hr (by decide) hgd rfl rfl (pa_mcons (pe_mV (i := 0) rfl (by (first | exact Or.inl rfl | exact Or.inr (Or.inl rfl) | exact Or.inr (Or.inr rfl))) (by decide) (by decide)) (pa_mcons (pe_mV (i := 2) rfl (by (first | exact Or.inl rfl | exact Or.inr (Or.inl rfl) | exact Or.inr (Or.inr rfl))) (by decide) (by decide)) pa_mnil rfl) rfl) (by decide) rfl rfl) rfl)
    (pss_mone (ps_mret (pe_mGet2 rm (pe_mIxA rm (pe_mCall c_follows hr (by decide) hgd rfl rfl (pa_mcons (pe_mV (i := 0) rfl (by (first | exact Or.inl rfl | exact Or.inr (Or.inl rfl) | exact Or.inr (Or.inr rfl))) (by decide) (by decide)) (pa_mcons (pe_mV (i := 1) rfl (by (first | exact Or.inl rfl | exact Or.inr (Or.inl rfl) | exact Or.inr (Or.inr rfl))) (by decide) (by decide)) pa_mnil rfl) rfl) (by decide) rfl rfl) (pe_mIxA rm (pe_mV (i := 2) rfl (by (first | exact Or.inl rfl | exact Or.inr (Or.inl rfl) | exact Or.inr (Or.inr rfl))) (by decide) (by decide)) pe_mint (fun _ _ => rfl)) (fun _ _ => rfl)) (pe_mD (pe_mIxA rm (pe_mV (i := 2) rfl (by (first | exact Or.inl rfl | exact Or.inr (Or.inl rfl) | exact Or.inr (Or.inr rfl))) (by decide) (by decide)) pe_mint (fun _ _ => rfl))) pe_mnon ⟨rfl, rfl, rfl, rfl⟩)))))
theorem cal_why (bt : Bt mg) (c_want_reports : CalG P w K mg base 12 "want_reports" P_want_reports F_want_reports) (c_want_pair : CalG P w K mg base 11 "want_pair" P_want_pair F_want_pair) (c_follows : CalG P w K mg base 8 "follows" P_follows F_follows) {f : Addr} {fd : FuncData} (F : FunD K "why" "why" (defArgs s_why) (defBody s_why) (defScope s_why) [] [] f fd) (hm : mg "why" = some (.ref f)) : CalG P w K mg base 13 "why" P_why F_why :=
  ⟨f, fd, ok_why bt c_want_reports c_want_pair c_follows F, hm, F.kp, F.bindsN fun _ _ _ _ _ _ us hl => match us, hl with | [_, _, _], _ => rfl⟩
abbrev s_is_why : Stmt := top 35
def N_is_why : List Str := ["runners", "reports", "pair", "value", "one", "step"]
def P_is_why : List Str := ["runners", "reports", "pair", "value"]
def is_why_c1 : M := mLc 6 (mIt (mV 3)) (gNm (outs 6 [4]) 4) mYes (mCall F_is_within [(mV 4), (mK (.int 0)), (mOp2 gSub (mV 0) (mK (.int 1)))]) [4]
def is_why_c2 : M := mLc 6 (mZipN (mV 3) (mSl (mV 3) (some (mK (.int 1))) none)) (gNm (outs 6 [5]) 5) mYes (mOp2 gInA (mV 5) (mB gList [(mV 1)])) [5]
def m_is_why : MS := (mSeq (mExpr (mCall F_want_reports [(mV 0), (mV 1)]))
    (mSeq (mExpr (mCall F_want_pair [(mV 0), (mV 2)]))
    (mSeq (mIfS ((mOr (mNot (mCall F_is_list [(mV 3)])) (mOr (mOp2 gLt (mLen (mV 3)) (mK (.int 2))) (mNot (mB gAll [(is_why_c1)]))))) (mRet (mK (.bool false))) mSkip)
    (mSeq (mIfS (mOp2 gNe (mTup [(mD (mIxA (mV 3) (mK (.int 0)))), (mD (mIxA (mV 3) (mNegK 1)))]) (mV 2)) (mRet (mK (.bool false))) mSkip)
    (mRet (mB gAll [(is_why_c2)]))))))
def F_is_why : Fn := runF 6 [0, 1, 2, 3] m_is_why
theorem sc_is_why : FnScope N_is_why P_is_why (defScope s_is_why) := ⟨rfl, rfl, rfl, by decide +kernel, rfl, by decide +kernel, by decide +kernel⟩
theorem ok_is_why (bt : Bt mg) (c_want_reports : CalG P w K mg base 12 "want_reports" P_want_reports F_want_reports) (c_want_pair : CalG P w K mg base 11 "want_pair" P_want_pair F_want_pair) (c_is_list : CalG P w K mg base 8 "is_list" P_is_list F_is_list) (c_is_within : CalG P w K mg base 9 "is_within" P_is_within F_is_within) {f : Addr} {fd : FuncData} (F : FunD K "is_why" "is_why" (defArgs s_is_why) (defBody s_is_why) (defScope s_is_why) [] [] f fd) : FnG P w K mg base 13 f fd P_is_why (spF K 4 F_is_why) :=
  fnG_of F sc_is_why rfl fun cdv A fr s H E hr hgd =>
    have rm := rm_of hr hgd
    have S_nd := sc_is_why.nd
    (pss_mcons (ps_mexpr (pe_mCall c_want_reports hr (by decide) hgd rfl rfl (pa_mcons (pe_mV (i := 0) rfl (by (first | exact Or.inl rfl | exact Or.inr (Or.inl rfl) | exact Or.inr (Or.inr rfl))) (by decide) (by decide)) (pa_mcons (pe_mV (i := 1) rfl (by (first | exact Or.inl rfl | exact Or.inr (Or.inl rfl) | exact Or.inr (Or.inr rfl))) (by decide) (by decide)) pa_mnil rfl) rfl) (by decide) rfl rfl) rfl)
    (pss_mcons (ps_mexpr (pe_mCall c_want_pair hr (by decide) hgd rfl rfl (pa_mcons (pe_mV (i := 0) rfl (by (first | exact Or.inl rfl | exact Or.inr (Or.inl rfl) | exact Or.inr (Or.inr rfl))) (by decide) (by decide)) (pa_mcons (pe_mV (i := 2) rfl (by (first | exact Or.inl rfl | exact Or.inr (Or.inl rfl) | exact Or.inr (Or.inr rfl))) (by decide) (by decide)) pa_mnil rfl) rfl) (by decide) rfl rfl) rfl)
    (pss_mcons (ps_mif (pt_w (pw_mor (pt_mnot (pt_mval (pe_mCall c_is_list hr (by decide) hgd rfl rfl (pa_mcons (pe_mV (i := 3) rfl (by (first | exact Or.inl rfl | exact Or.inr (Or.inl rfl) | exact Or.inr (Or.inr rfl))) (by decide) (by decide)) pa_mnil rfl) (by decide) rfl rfl) (fun _ => rfl))) (pw_mor (pt_mcmp (og_lt rm) (by first | rfl | exact nobehind _ (by decide) (by decide)) (pe_mLen rfl bt.len (pe_mV (i := 3) rfl (by (first | exact Or.inl rfl | exact Or.inr (Or.inl rfl) | exact Or.inr (Or.inr rfl))) (by decide) (by decide)) rfl rfl) pe_mint) (pw_mor1 (pt_mnot (pt_mval (pe_mB (cg_all rfl) rfl bt.all (by decide +kernel) (pa_mcons (pe_mLc (n := 6) (own := [("one", 4)]) rfl S_nd (pi_mIt (pe_mV (i := 3) rfl (by (first | exact Or.inl rfl | exact Or.inr (Or.inl rfl) | exact Or.inr (Or.inr rfl))) (by decide) (by decide))) (blkOk_by (by kernel_rfl)) (fun _ _ _ _ _ => (pg_mname (i := 4) S_nd rfl (by (first | exact Or.inl rfl | exact Or.inr rfl)) (by (first | exact Or.inr rfl | exact Or.inl rfl)))) (fun _ _ _ _ _ => pts_mnil) (fun _ _ _ _ _ => (pe_mCall c_is_within hr (by decide) hgd rfl rfl (pa_mcons (pe_mV (i := 4) rfl (by (first | exact Or.inl rfl | exact Or.inr (Or.inl rfl) | exact Or.inr (Or.inr rfl))) (by decide) (by decide)) (pa_mcons pe_mint (pa_mcons (pe_mbin og_sub (pe_mV (i := 0) rfl (by (first | exact Or.inl rfl | exact Or.inr (Or.inl rfl) | exact Or.inr (Or.inr rfl))) (by decide) (by decide)) pe_mint) pa_mnil rfl) rfl) rfl) (by decide) rfl rfl)) (fun _ => rfl)) pa_mnil rfl) (by decide) (by decide) rfl rfl) (fun _ => rfl))))))) (pss_mone (ps_mret pe_mbl)) pss_mnil)
    (pss_mcons (ps_mif (pt_mcmp (og_ne rm) (by first | rfl | exact nobehind _ (by decide) (by decide)) (pe_mTup (pa_mcons (pe_mD (pe_mIxA rm (pe_mV (i := 3) rfl (by (first | exact Or.inl rfl | exact Or.inr (Or.inl rfl) | exact Or.inr (Or.inr rfl))) (by decide) (by decide)) pe_mint (fun _ _ => rfl))) (pa_mcons (pe_mD (pe_mIxA rm (pe_mV (i := 3) rfl (by (first | exact Or.inl rfl | exact Or.inr (Or.inl rfl) | exact Or.inr (Or.inr rfl))) (by decide) (by decide)) pe_mNegK (fun _ _ => rfl))) pa_mnil rfl) rfl)) (pe_mV (i := 2) rfl (by (first | exact Or.inl rfl | exact Or.inr (Or.inl rfl) | exact Or.inr (Or.inr rfl))) (by decide) (by decide))) (pss_mone (ps_mret pe_mbl)) pss_mnil)
    (pss_mone (ps_mret (pe_mB (cg_all rfl) rfl bt.all (by decide +kernel) (pa_mcons (pe_mLc (n := 6) (own := [("step", 5)]) rfl S_nd (pi_mZipN rfl bt.zip (pe_mV (i := 3) rfl (by (first | exact Or.inl rfl | exact Or.inr (Or.inl rfl) | exact Or.inr (Or.inr rfl))) (by decide) (by decide)) (pe_mSl (pe_mV (i := 3) rfl (by (first | exact Or.inl rfl | exact Or.inr (Or.inl rfl) | exact Or.inr (Or.inr rfl))) (by decide) (by decide)) (po_msome pe_mint) po_mnone) rfl rfl rfl) (blkOk_by (by kernel_rfl)) (fun _ _ _ _ _ => (pg_mname (i := 5) S_nd rfl (by (first | exact Or.inl rfl | exact Or.inr rfl)) (by (first | exact Or.inr rfl | exact Or.inl rfl)))) (fun _ _ _ _ _ => pts_mnil) (fun _ _ _ _ _ => (pe_mcmp (og_inA rm) (by first | rfl | exact nobehind _ (by decide) (by decide)) (pe_mV (i := 5) rfl (by (first | exact Or.inl rfl | exact Or.inr (Or.inl rfl) | exact Or.inr (Or.inr rfl))) (by decide) (by decide)) (pe_mTy cg_list rfl bt.list (by decide +kernel) (pa_mcons (pe_mV (i := 1) rfl (by (first | exact Or.inl rfl | exact Or.inr (Or.inl rfl) | exact Or.inr (Or.inr rfl))) (by decide) (by decide)) pa_mnil rfl) (by decide) (by decide) rfl rfl))) (fun _ => rfl)) pa_mnil rfl) (by decide) (by decide) rfl rfl)))))))
theorem cal_is_why (bt : Bt mg) (c_want_reports : CalG P w K mg base 12 "want_reports" P_want_reports F_want_reports) (c_want_pair : CalG P w K mg base 11 "want_pair" P_want_pair F_want_pair) (c_is_list : CalG P w K mg base 8 "is_list" P_is_list F_is_list) (c_is_within : CalG P w K mg base 9 "is_within" P_is_within F_is_within) {f : Addr} {fd : FuncData} (F : FunD K "is_why" "is_why" (defArgs s_is_why) (defBody s_is_why) (defScope s_is_why) [] [] f fd) (hm : mg "is_why" = some (.ref f)) : CalG P w K mg base 13 "is_why" P_is_why F_is_why :=
  ⟨f, fd, ok_is_why bt c_want_reports c_want_pair c_is_list c_is_within F, hm, F.kp, F.bindsN fun _ _ _ _ _ _ us hl => match us, hl with | [_, _, _, _], _ => rfl⟩
abbrev s_ahead : Stmt := top 36
def N_ahead : List Str := ["order", "runner"]
def P_ahead : List Str := ["order", "runner"]
def m_ahead : MS := (mSeq (mExpr (mCall F_want_order [(mV 0)]))
    (mSeq (mExpr (mCall F_want_runner [(mIxA (mV 0) (mK (.int 1))), (mV 1)]))
    (mRet (mB gTuple [(mCall F_ahead_of [(mIxA (mV 0) (mK (.int 2))), (mV 1)])]))))
def F_ahead : Fn := runF 2 [0, 1] m_ahead
theorem sc_ahead : FnScope N_ahead P_ahead (defScope s_ahead) := ⟨rfl, rfl, rfl, by decide +kernel, rfl, by decide +kernel, by decide +kernel⟩
theorem ok_ahead (bt : Bt mg) (c_want_order : CalG P w K mg base 12 "want_order" P_want_order F_want_order) (c_want_runner : CalG P w K mg base 10 "want_runner" P_want_runner F_want_runner) (c_ahead_of : CalG P w K mg base 8 "ahead_of" P_ahead_of F_ahead_of) {f : Addr} {fd : FuncData} (F : FunD K "ahead" "ahead" (defArgs s_ahead) (defBody s_ahead) (defScope s_ahead) [] [] f fd) : FnG P w K mg base 13 f fd P_ahead (spF K 2 F_ahead) :=
  fnG_of F sc_ahead rfl fun cdv A fr s H E hr hgd =>
    have rm := rm_of hr hgd
    have S_nd := sc_ahead.nd
    (pss_mcons (ps_mexpr (pe_mCall c_want_order hr (by decide) hgd rfl rfl (pa_mcons (pe_mV (i := 0) rfl (by (first | exact Or.inl rfl | exact Or.inr (Or.inl rfl) | exact Or.inr (Or.inr rfl))) (by decide) (by decide)) pa_mnil rfl) (by decide) rfl rfl) rfl)
    (pss_mcons (ps_mexpr (pe_mCall c_want_runner hr (by decide) hgd rfl rfl (pa_mcons (pe_mIxA rm (pe_mV (i := 0) rfl (by (first | exact Or.inl rfl | exact Or.inr (Or.inl rfl) | exact Or.inr (Or.inr rfl))) (by decide) (by decide)) pe_mint (fun _ _ => rfl)) (pa_mcons (pe_mV (i := 1) rfl (by (first | exact Or.inl rfl | exact Or.inr (Or.inl rfl) | exact Or.inr (Or.inr rfl))) (by decide) (by decide)) pa_mnil rfl) rfl) (by decide) rfl rfl) rfl)
    (pss_mone (ps_mret (pe_mTy cg_tuple rfl bt.tuple (by decide +kernel) (pa_mcons (pe_mCall c_ahead_of hr (by decide) hgd rfl rfl (pa_mcons (pe_mIxA rm (pe_mV (i := 0) rfl (by (first | exact Or.inl rfl | exact Or.inr (Or.inl rfl) | exact Or.inr (Or.inr rfl))) (by decide) (by decide)) pe_mint (fun _ _ => rfl)) (pa_mcons (pe_mV (i := 1) rfl (by (first | exact Or.inl rfl | exact Or.inr (Or.inl rfl) | exact Or.inr (Or.inr rfl))) (by decide) (by decide)) pa_mnil rfl) rfl) (by decide) rfl rfl) pa_mnil rfl) (by decide) (by decide) rfl rfl)))))
theorem cal_ahead (bt : Bt mg) (c_want_order : CalG P w K mg base 12 "want_order" P_want_order F_want_order) (c_want_runner : CalG P w K mg base 10 "want_runner" P_want_runner F_want_runner) (c_ahead_of : CalG P w K mg base 8 "ahead_of" P_ahead_of F_ahead_of) {f : Addr} {fd : FuncData} (F : FunD K "ahead" "ahead" (defArgs s_ahead) (defBody s_ahead) (defScope s_ahead) [] [] f fd) (hm : mg "ahead" = some (.ref f)) : CalG P w K mg base 13 "ahead" P_ahead F_ahead :=
  ⟨f, fd, ok_ahead bt c_want_order c_want_runner c_ahead_of F, hm, F.kp, F.bindsN fun _ _ _ _ _ _ us hl => match us, hl with | [_, _], _ => rfl⟩
abbrev s_behind : Stmt := top 37
def N_behind : List Str := ["order", "runner"]
def P_behind : List Str := ["order", "runner"]
def m_behind : MS := (mSeq (mExpr (mCall F_want_order [(mV 0)]))
    (mSeq (mExpr (mCall F_want_runner [(mIxA (mV 0) (mK (.int 1))), (mV 1)]))
    (mRet (mB gTuple [(mCall F_behind_of [(mIxA (mV 0) (mK (.int 2))), (mV 1)])]))))
def F_behind : Fn := runF 2 [0, 1] m_behind
theorem sc_behind : FnScope N_behind P_behind (defScope s_behind) := ⟨rfl, rfl, rfl, by decide +kernel, rfl, by decide +kernel, by decide +kernel⟩
theorem ok_behind (bt : Bt mg) (c_want_order : CalG P w K mg base 12 "want_order" P_want_order F_want_order) (c_want_runner : CalG P w K mg base 10 "want_runner" P_want_runner F_want_runner) (c_behind_of : CalG P w K mg base 8 "behind_of" P_behind_of F_behind_of) {f : Addr} {fd : FuncData} (F : FunD K "behind" "behind" (defArgs s_behind) (defBody s_behind) (defScope s_behind) [] [] f fd) : FnG P w K mg base 13 f fd P_behind (spF K 2 F_behind) :=
  fnG_of F sc_behind rfl fun cdv A fr s H E hr hgd =>
    have rm := rm_of hr hgd
    have S_nd := sc_behind.nd
    (pss_mcons (ps_mexpr (pe_mCall c_want_order hr (by decide) hgd rfl rfl (pa_mcons (pe_mV (i := 0) rfl (by (first | exact Or.inl rfl | exact Or.inr (Or.inl rfl) | exact Or.inr (Or.inr rfl))) (by decide) (by decide)) pa_mnil rfl) (by decide) rfl rfl) rfl)
    (pss_mcons (ps_mexpr (pe_mCall c_want_runner hr (by decide) hgd rfl rfl (pa_mcons (pe_mIxA rm (pe_mV (i := 0) rfl (by (first | exact Or.inl rfl | exact Or.inr (Or.inl rfl) | exact Or.inr (Or.inr rfl))) (by decide) (by decide)) pe_mint (fun _ _ => rfl)) (pa_mcons (pe_mV (i := 1) rfl (by (first | exact Or.inl rfl | exact Or.inr (Or.inl rfl) | exact Or.inr (Or.inr rfl))) (by decide) (by decide)) pa_mnil rfl) rfl) (by decide) rfl rfl) rfl)
    (pss_mone (ps_mret (pe_mTy cg_tuple rfl bt.tuple (by decide +kernel) (pa_mcons (pe_mCall c_behind_of hr (by decide) hgd rfl rfl (pa_mcons (pe_mIxA rm (pe_mV (i := 0) rfl (by (first | exact Or.inl rfl | exact Or.inr (Or.inl rfl) | exact Or.inr (Or.inr rfl))) (by decide) (by decide)) pe_mint (fun _ _ => rfl)) (pa_mcons (pe_mV (i := 1) rfl (by (first | exact Or.inl rfl | exact Or.inr (Or.inl rfl) | exact Or.inr (Or.inr rfl))) (by decide) (by decide)) pa_mnil rfl) rfl) (by decide) rfl rfl) pa_mnil rfl) (by decide) (by decide) rfl rfl)))))
theorem cal_behind (bt : Bt mg) (c_want_order : CalG P w K mg base 12 "want_order" P_want_order F_want_order) (c_want_runner : CalG P w K mg base 10 "want_runner" P_want_runner F_want_runner) (c_behind_of : CalG P w K mg base 8 "behind_of" P_behind_of F_behind_of) {f : Addr} {fd : FuncData} (F : FunD K "behind" "behind" (defArgs s_behind) (defBody s_behind) (defScope s_behind) [] [] f fd) (hm : mg "behind" = some (.ref f)) : CalG P w K mg base 13 "behind" P_behind F_behind :=
  ⟨f, fd, ok_behind bt c_want_order c_want_runner c_behind_of F, hm, F.kp, F.bindsN fun _ _ _ _ _ _ us hl => match us, hl with | [_, _], _ => rfl⟩
abbrev s_apart : Stmt := top 38
def N_apart : List Str := ["order"]
def P_apart : List Str := ["order"]
def m_apart : MS := (mSeq (mExpr (mCall F_want_order [(mV 0)]))
    (mRet (mB gTuple [(mCall F_apart_pairs [(mV 0)])])))
def F_apart : Fn := runF 1 [0] m_apart
theorem sc_apart : FnScope N_apart P_apart (defScope s_apart) := ⟨rfl, rfl, rfl, by decide +kernel, rfl, by decide +kernel, by decide +kernel⟩
theorem ok_apart (bt : Bt mg) (c_want_order : CalG P w K mg base 12 "want_order" P_want_order F_want_order) (c_apart_pairs : CalG P w K mg base 9 "apart_pairs" P_apart_pairs F_apart_pairs) {f : Addr} {fd : FuncData} (F : FunD K "apart" "apart" (defArgs s_apart) (defBody s_apart) (defScope s_apart) [] [] f fd) : FnG P w K mg base 13 f fd P_apart (spF K 1 F_apart) :=
  fnG_of F sc_apart rfl fun cdv A fr s H E hr hgd =>
    have rm := rm_of hr hgd
    have S_nd := sc_apart.nd
    (pss_mcons (ps_mexpr (pe_mCall c_want_order hr (by decide) hgd rfl rfl (pa_mcons (pe_mV (i := 0) rfl (by (first | exact Or.inl rfl | exact Or.inr (Or.inl rfl) | exact Or.inr (Or.inr rfl))) (by decide) (by decide)) pa_mnil rfl) (by decide) rfl rfl) rfl)
    (pss_mone (ps_mret (pe_mTy cg_tuple rfl bt.tuple (by decide +kernel) (pa_mcons (pe_mCall c_apart_pairs hr (by decide) hgd rfl rfl (pa_mcons (pe_mV (i := 0) rfl (by (first | exact Or.inl rfl | exact Or.inr (Or.inl rfl) | exact Or.inr (Or.inr rfl))) (by decide) (by decide)) pa_mnil rfl) (by decide) rfl rfl) pa_mnil rfl) (by decide) (by decide) rfl rfl))))
theorem cal_apart (bt : Bt mg) (c_want_order : CalG P w K mg base 12 "want_order" P_want_order F_want_order) (c_apart_pairs : CalG P w K mg base 9 "apart_pairs" P_apart_pairs F_apart_pairs) {f : Addr} {fd : FuncData} (F : FunD K "apart" "apart" (defArgs s_apart) (defBody s_apart) (defScope s_apart) [] [] f fd) (hm : mg "apart" = some (.ref f)) : CalG P w K mg base 13 "apart" P_apart F_apart :=
  ⟨f, fd, ok_apart bt c_want_order c_apart_pairs F, hm, F.kp, F.bindsN fun _ _ _ _ _ _ us hl => match us, hl with | [_], _ => rfl⟩
abbrev s_neighbours : Stmt := top 39
def N_neighbours : List Str := ["order"]
def P_neighbours : List Str := ["order"]
def m_neighbours : MS := (mSeq (mExpr (mCall F_want_order [(mV 0)]))
    (mRet (mB gTuple [(mCall F_neighbours_of [(mV 0)])])))
def F_neighbours : Fn := runF 1 [0] m_neighbours
theorem sc_neighbours : FnScope N_neighbours P_neighbours (defScope s_neighbours) := ⟨rfl, rfl, rfl, by decide +kernel, rfl, by decide +kernel, by decide +kernel⟩
theorem ok_neighbours (bt : Bt mg) (c_want_order : CalG P w K mg base 12 "want_order" P_want_order F_want_order) (c_neighbours_of : CalG P w K mg base 8 "neighbours_of" P_neighbours_of F_neighbours_of) {f : Addr} {fd : FuncData} (F : FunD K "neighbours" "neighbours" (defArgs s_neighbours) (defBody s_neighbours) (defScope s_neighbours) [] [] f fd) : FnG P w K mg base 13 f fd P_neighbours (spF K 1 F_neighbours) :=
  fnG_of F sc_neighbours rfl fun cdv A fr s H E hr hgd =>
    have rm := rm_of hr hgd
    have S_nd := sc_neighbours.nd
    (pss_mcons (ps_mexpr (pe_mCall c_want_order hr (by decide) hgd rfl rfl (pa_mcons (pe_mV (i := 0) rfl (by (first | exact Or.inl rfl | exact Or.inr (Or.inl rfl) | exact Or.inr (Or.inr rfl))) (by decide) (by decide)) pa_mnil rfl) (by decide) rfl rfl) rfl)
    (pss_mone (ps_mret (pe_mTy cg_tuple rfl bt.tuple (by decide +kernel) (pa_mcons (pe_mCall c_neighbours_of hr (by decide) hgd rfl rfl (pa_mcons (pe_mV (i := 0) rfl (by (first | exact Or.inl rfl | exact Or.inr (Or.inl rfl) | exact Or.inr (Or.inr rfl))) (by decide) (by decide)) pa_mnil rfl) (by decide) rfl rfl) pa_mnil rfl) (by decide) (by decide) rfl rfl))))
theorem cal_neighbours (bt : Bt mg) (c_want_order : CalG P w K mg base 12 "want_order" P_want_order F_want_order) (c_neighbours_of : CalG P w K mg base 8 "neighbours_of" P_neighbours_of F_neighbours_of) {f : Addr} {fd : FuncData} (F : FunD K "neighbours" "neighbours" (defArgs s_neighbours) (defBody s_neighbours) (defScope s_neighbours) [] [] f fd) (hm : mg "neighbours" = some (.ref f)) : CalG P w K mg base 13 "neighbours" P_neighbours F_neighbours :=
  ⟨f, fd, ok_neighbours bt c_want_order c_neighbours_of F, hm, F.kp, F.bindsN fun _ _ _ _ _ _ us hl => match us, hl with | [_], _ => rfl⟩
abbrev s_turned_about : Stmt := top 41
def N_turned_about : List Str := ["order", "a", "b"]
def P_turned_about : List Str := ["order"]
def turned_about_c1 : M := mLc 3 (mIt (mIxA (mV 0) (mK (.int 2)))) (gTp 2 (gs1 (gNm (outs 3 [1, 2]) 1) (gs1 (gNm (outs 3 [1, 2]) 2) gs0))) mYes (mTup [(mD (mV 2)), (mD (mV 1))]) [1, 2]
def m_turned_about : MS := (mSeq (mExpr (mCall F_want_order [(mV 0)]))
    (mRet (mCall F_made [(mIxA (mV 0) (mK (.int 1))), (turned_about_c1)])))
def F_turned_about : Fn := runF 3 [0] m_turned_about
theorem sc_turned_about : FnScope N_turned_about P_turned_about (defScope s_turned_about) := ⟨rfl, rfl, rfl, by decide +kernel, rfl, by decide +kernel, by decide +kernel⟩
theorem ok_turned_about (bt : Bt mg) (c_want_order : CalG P w K mg base 12 "want_order" P_want_order F_want_order) (c_made : CalG P w K mg base 8 "made" P_made F_made) {f : Addr} {fd : FuncData} (F : FunD K "turned_about" "turned_about" (defArgs s_turned_about) (defBody s_turned_about) (defScope s_turned_about) [] [] f fd) : FnG P w K mg base 13 f fd P_turned_about (spF K 1 F_turned_about) :=
  fnG_of F sc_turned_about rfl fun cdv A fr s H E hr hgd =>
    have rm := rm_of hr hgd
    have S_nd := sc_turned_about.nd
    (pss_mcons (ps_mexpr (pe_mCall c_want_order hr (by decide) hgd rfl rfl (pa_mcons (pe_mV (i := 0) rfl (by (first | exact Or.inl rfl | exact Or.inr (Or.inl rfl) | exact Or.inr (Or.inr rfl))) (by decide) (by decide)) pa_mnil rfl) (by decide) rfl rfl) rfl)
    (pss_mone (ps_mret (pe_mCall c_made hr (by decide) hgd rfl rfl (pa_mcons (pe_mIxA rm (pe_mV (i := 0) rfl (by (first | exact Or.inl rfl | exact Or.inr (Or.inl rfl) | exact Or.inr (Or.inr rfl))) (by decide) (by decide)) pe_mint (fun _ _ => rfl)) (pa_mcons (pe_mLc (n := 3) (own := [("a", 1), ("b", 2)]) rfl S_nd (pi_mIt (pe_mIxA rm (pe_mV (i := 0) rfl (by (first | exact Or.inl rfl | exact Or.inr (Or.inl rfl) | exact Or.inr (Or.inr rfl))) (by decide) (by decide)) pe_mint (fun _ _ => rfl))) (blkOk_by (by kernel_rfl)) (fun _ _ _ _ _ => (pg_mtup (n := 2) rfl (pgs_mcons (pg_mname (i := 1) S_nd rfl (by (first | exact Or.inl rfl | exact Or.inr rfl)) (by (first | exact Or.inr rfl | exact Or.inl rfl))) (pgs_mcons (pg_mname (i := 2) S_nd rfl (by (first | exact Or.inl rfl | exact Or.inr rfl)) (by (first | exact Or.inr rfl | exact Or.inl rfl))) pgs_mnil rfl) rfl) rfl rfl)) (fun _ _ _ _ _ => pts_mnil) (fun _ _ _ _ _ => (pe_mTup (pa_mcons (pe_mD (pe_mV (i := 2) rfl (by (first | exact Or.inl rfl | exact Or.inr (Or.inl rfl) | exact Or.inr (Or.inr rfl))) (by decide) (by decide))) (pa_mcons (pe_mD (pe_mV (i := 1) rfl (by (first | exact Or.inl rfl | exact Or.inr (Or.inl rfl) | exact Or.inr (Or.inr rfl))) (by decide) (by decide))) pa_mnil rfl) rfl))) (fun _ => rfl)) pa_mnil rfl) rfl) (by decide) rfl rfl))))
theorem cal_turned_about (bt : Bt mg) (c_want_order : CalG P w K mg base 12 "want_order" P_want_order F_want_order) (c_made : CalG P w K mg base 8 "made" P_made F_made) {f : Addr} {fd : FuncData} (F : FunD K "turned_about" "turned_about" (defArgs s_turned_about) (defBody s_turned_about) (defScope s_turned_about) [] [] f fd) (hm : mg "turned_about" = some (.ref f)) : CalG P w K mg base 13 "turned_about" P_turned_about F_turned_about :=
  ⟨f, fd, ok_turned_about bt c_want_order c_made F, hm, F.kp, F.bindsN fun _ _ _ _ _ _ us hl => match us, hl with | [_], _ => rfl⟩
abbrev s_with_report : Stmt := top 42
def N_with_report : List Str := ["order", "pair"]
def P_with_report : List Str := ["order", "pair"]
def m_with_report : MS := (mSeq (mExpr (mCall F_want_order [(mV 0)]))
    (mSeq (mExpr (mCall F_want_pair [(mIxA (mV 0) (mK (.int 1))), (mV 1)]))
    (mSeq (mIfS (mOp2 gInA (mTup [(mD (mIxA (mV 1) (mK (.int 1)))), (mD (mIxA (mV 1) (mK (.int 0))))]) (mIxA (mV 0) (mK (.int 2)))) (mRet (mK .none)) mSkip)
    (mRet (mCall F_made [(mIxA (mV 0) (mK (.int 1))), (mCall F_closed_by [(mIxA (mV 0) (mK (.int 1))), (mOp2 gAdd (mB gList [(mIxA (mV 0) (mK (.int 2)))]) (mLst [(mD (mV 1))]))])])))))
def F_with_report : Fn := runF 2 [0, 1] m_with_report
theorem sc_with_report : FnScope N_with_report P_with_report (defScope s_with_report) := ⟨rfl, rfl, rfl, by decide +kernel, rfl, by decide +kernel, by decide +kernel⟩
theorem ok_with_report (bt : Bt mg) (c_want_order : CalG P w K mg base 12 "want_order" P_want_order F_want_order) (c_want_pair : CalG P w K mg base 11 "want_pair" P_want_pair F_want_pair) (c_made : CalG P w K mg base 8 "made" P_made F_made) (c_closed_by : CalG P w K mg base 9 "closed_by" P_closed_by F_closed_by) {f : Addr} {fd : FuncData} (F : FunD K "with_report" "with_report" (defArgs s_with_report) (defBody s_with_report) (defScope s_with_report) [] [] f fd) : FnG P w K mg base 13 f fd P_with_report (spF K 2 F_with_report) :=
  fnG_of F sc_with_report rfl fun cdv A fr s H E hr hgd =>
    have rm := rm_of hr hgd
    have S_nd := sc_with_report.nd
    (pss_mcons (ps_mexpr (pe_mCall c_want_order hr (by decide) hgd rfl rfl (pa_mcons (pe_mV (i := 0) rfl (by (first | exact Or.inl rfl | exact Or.inr (Or.inl rfl) | exact Or.inr (Or.inr rfl))) (by decide) (by decide)) pa_mnil rfl) (by decide) rfl rfl) rfl)
    (pss_mcons (ps_mexpr (pe_mCall c_want_pair hr (by decide) hgd rfl rfl (pa_mcons (pe_mIxA rm (pe_mV (i := 0) rfl (by (first | exact Or.inl rfl | exact Or.inr (Or.inl rfl) | exact Or.inr (Or.inr rfl))) (by decide) (by decide)) pe_mint (fun _ _ => rfl)) (pa_mcons (pe_mV (i := 1) rfl (by (first | exact Or.inl rfl | exact Or.inr (Or.inl rfl) | exact Or.inr (Or.inr rfl))) (by decide) (by decide)) pa_mnil rfl) rfl) (by decide) rfl rfl) rfl)
    (pss_mcons (ps_mif (pt_mcmp (og_inA rm) (by first | rfl | exact nobehind _ (by decide) (by decide)) (pe_mTup (pa_mcons (pe_mD (pe_mIxA rm (pe_mV (i := 1) rfl (by (first | exact Or.inl rfl | exact Or.inr (Or.inl rfl) | exact Or.inr (Or.inr rfl))) (by decide) (by decide)) pe_mint (fun _ _ => rfl))) (pa_mcons (pe_mD (pe_mIxA rm (pe_mV (i := 1) rfl (by (first | exact Or.inl rfl | exact Or.inr (Or.inl rfl) | exact Or.inr (Or.inr rfl))) (by decide) (by decide)) pe_mint (fun _ _ => rfl))) pa_mnil rfl) rfl)) (pe_mIxA rm (pe_mV (i := 0) rfl (by (first | exact Or.inl rfl | exact Or.inr (Or.inl rfl) | exact Or.inr (Or.inr rfl))) (by decide) (by decide)) pe_mint (fun _ _ => rfl))) (pss_mone (ps_mret pe_mnon)) pss_mnil)
    (pss_mone (ps_mret (pe_mCall c_made hr (by decide) hgd rfl rfl (pa_mcons (pe_mIxA rm (pe_mV (i := 0) rfl (by (first | exact Or.inl rfl | exact Or.inr (Or.inl rfl) | exact Or.inr (Or.inr rfl))) (by decide) (by decide)) pe_mint (fun _ _ => rfl)) (pa_mcons (pe_mCall c_closed_by hr (by decide) hgd rfl rfl (pa_mcons (pe_mIxA rm (pe_mV (i := 0) rfl (by (first | exact Or.inl rfl | exact Or.inr (Or.inl rfl) | exact Or.inr (Or.inr rfl))) (by decide) (by decide)) pe_mint (fun _ _ => rfl)) (pa_mcons (pe_mbin og_add (pe_mTy cg_list rfl bt.list (by decide +kernel) (pa_mcons (pe_mIxA rm (pe_mV (i := 0) rfl (by (first | exact Or.inl rfl | exact Or.inr (Or.inl rfl) | exact Or.inr (Or.inr rfl))) (by decide) (by decide)) pe_mint (fun _ _ => rfl)) pa_mnil rfl) (by decide) (by decide) rfl rfl) (pe_mLst (pa_mcons (pe_mD (pe_mV (i := 1) rfl (by (first | exact Or.inl rfl | exact Or.inr (Or.inl rfl) | exact Or.inr (Or.inr rfl))) (by decide) (by decide))) pa_mnil rfl))) pa_mnil rfl) rfl) (by decide) rfl rfl) pa_mnil rfl) rfl) (by decide) rfl rfl))))))
theorem cal_with_report (bt : Bt mg) (c_want_order : CalG P w K mg base 12 "want_order" P_want_order F_want_order) (c_want_pair : CalG P w K mg base 11 "want_pair" P_want_pair F_want_pair) (c_made : CalG P w K mg base 8 "made" P_made F_made) (c_closed_by : CalG P w K mg base 9 "closed_by" P_closed_by F_closed_by) {f : Addr} {fd : FuncData} (F : FunD K "with_report" "with_report" (defArgs s_with_report) (defBody s_with_report) (defScope s_with_report) [] [] f fd) (hm : mg "with_report" = some (.ref f)) : CalG P w K mg base 13 "with_report" P_with_report F_with_report :=
  ⟨f, fd, ok_with_report bt c_want_order c_want_pair c_made c_closed_by F, hm, F.kp, F.bindsN fun _ _ _ _ _ _ us hl => match us, hl with | [_, _], _ => rfl⟩
abbrev s__law_pot : Stmt := top 44
def N__law_pot : List Str := ["script", "k", "cell"]
def P__law_pot : List Str := ["script", "k"]
def m__law_pot : MS := (mSeq (mSet [0, 1] 2 (mIf (mOp2 gLt (mV 1) (mLen (mV 0))) (mB gAbs [(mIxA (mV 0) (mV 1))]) (mOp2 gAdd (mOp2 gMulA (mK (.int 1801)) (mV 1)) (mK (.int 631)))))
    (mRet (mLst [(mD (mB gMax2 [(mK (.int 0)), (mOp2 gSub (mV 2) (mOp2 gPow (mK (.int 10)) (mK (.int 18))))])), (mD (mOp2 gAdd (mOp2 gMod (mB gInt [(mOp2 gAdd (mOp2 gAdd (mOp2 gMulA (mOp2 gMod (mB gInt [(mV 2)]) (mK (.int 2147483549))) (mK (.int 40014))) (mOp2 gMulA (mK (.int 7529)) (mV 1))) (mK (.int 1451)))]) (mK (.int 2147483563))) (mK (.int 1))))])))
def F__law_pot : Fn := runF 3 [0, 1] m__law_pot
theorem sc__law_pot : FnScope N__law_pot P__law_pot (defScope s__law_pot) := ⟨rfl, rfl, rfl, by decide +kernel, rfl, by decide +kernel, by decide +kernel⟩
theorem ok__law_pot (bt : Bt mg) {f : Addr} {fd : FuncData} (F : FunD K "_law_pot" "_law_pot" (defArgs s__law_pot) (defBody s__law_pot) (defScope s__law_pot) [] [] f fd) : FnG P w K mg base 8 f fd P__law_pot (spF K 2 F__law_pot) :=
  fnG_of F sc__law_pot rfl fun cdv A fr s H E hr hgd =>
    have rm := rm_of hr hgd
    have S_nd := sc__law_pot.nd
    (pss_mcons (ps_mset (i := 2) S_nd rfl (by (first | exact Or.inl rfl | exact Or.inr rfl)) (pe_mif (pt_mcmp (og_lt rm) (by first | rfl | exact nobehind _ (by decide) (by decide)) (pe_mV (i := 1) rfl (by (first | exact Or.inl rfl | exact Or.inr (Or.inl rfl) | exact Or.inr (Or.inr rfl))) (by decide) (by decide)) (pe_mLen rfl bt.len (pe_mV (i := 0) rfl (by (first | exact Or.inl rfl | exact Or.inr (Or.inl rfl) | exact Or.inr (Or.inr rfl))) (by decide) (by decide)) rfl rfl)) (pe_mB cg_abs rfl bt.abs (by decide +kernel) (pa_mcons (pe_mIxA rm (pe_mV (i := 0) rfl (by (first | exact Or.inl rfl | exact Or.inr (Or.inl rfl) | exact Or.inr (Or.inr rfl))) (by decide) (by decide)) (pe_mV (i := 1) rfl (by (first | exact Or.inl rfl | exact Or.inr (Or.inl rfl) | exact Or.inr (Or.inr rfl))) (by decide) (by decide)) (fun _ _ => rfl)) pa_mnil rfl) (by decide) (by decide) rfl rfl) (pe_mbin og_add (pe_mbin og_mulA pe_mint (pe_mV (i := 1) rfl (by (first | exact Or.inl rfl | exact Or.inr (Or.inl rfl) | exact Or.inr (Or.inr rfl))) (by decide) (by decide))) pe_mint)) rfl (Or.inl rfl))
    (pss_mone (ps_mret (pe_mLst (pa_mcons (pe_mD (pe_mB (cg_max2 rfl) rfl bt.max (by decide +kernel) (pa_mcons pe_mint (pa_mcons (pe_mbin og_sub (pe_mV (i := 2) rfl (by (first | exact Or.inl rfl | exact Or.inr (Or.inl rfl) | exact Or.inr (Or.inr rfl))) (by decide) (by decide)) (pe_mbin og_pow pe_mint pe_mint)) pa_mnil rfl) rfl) (by decide) (by decide) rfl rfl)) (pa_mcons (pe_mD (pe_mbin og_add (pe_mbin og_mod (pe_mTy cg_int rfl bt.int (by decide +kernel) (pa_mcons (pe_mbin og_add (pe_mbin og_add (pe_mbin og_mulA (pe_mbin og_mod (pe_mTy cg_int rfl bt.int (by decide +kernel) (pa_mcons (pe_mV (i := 2) rfl (by (first | exact Or.inl rfl | exact Or.inr (Or.inl rfl) | exact Or.inr (Or.inr rfl))) (by decide) (by decide)) pa_mnil rfl) (by decide) (by decide) rfl rfl) pe_mint) pe_mint) (pe_mbin og_mulA pe_mint (pe_mV (i := 1) rfl (by (first | exact Or.inl rfl | exact Or.inr (Or.inl rfl) | exact Or.inr (Or.inr rfl))) (by decide) (by decide)))) pe_mint) pa_mnil rfl) (by decide) (by decide) rfl rfl) pe_mint) pe_mint)) pa_mnil rfl) rfl)))))
theorem cal__law_pot (bt : Bt mg) {f : Addr} {fd : FuncData} (F : FunD K "_law_pot" "_law_pot" (defArgs s__law_pot) (defBody s__law_pot) (defScope s__law_pot) [] [] f fd) (hm : mg "_law_pot" = some (.ref f)) : CalG P w K mg base 8 "_law_pot" P__law_pot F__law_pot :=
  ⟨f, fd, ok__law_pot bt F, hm, F.kp, F.bindsN fun _ _ _ _ _ _ us hl => match us, hl with | [_, _], _ => rfl⟩
abbrev s__law_draw : Stmt := top 45
def N__law_draw : List Str := ["pot", "many", "digit"]
def P__law_draw : List Str := ["pot", "many"]
def m__law_draw : MS := (mSeq (mIfS (mOp2 gGt (mIxA (mV 0) (mK (.int 0))) (mK (.int 0))) (mSeq (mAsg (gTp 2 (gs1 (gSbA (mV 0) (mK (.int 0))) (gs1 (gNm [0, 1] 2) gs0))) (mD (mB gDivmod [(mIxA (mV 0) (mK (.int 0))), (mV 1)])))
    (mRet (mV 2))) mSkip)
    (mSeq (mAsg (gSbA (mV 0) (mK (.int 1))) (mD (mOp2 gMod (mB gInt [(mOp2 gAdd (mOp2 gMulA (mIxA (mV 0) (mK (.int 1))) (mK (.int 40692))) (mK (.int 10613)))]) (mK (.int 2147483587)))))
    (mRet (mOp2 gMod (mB gInt [(mOp2 gDiv (mOp2 gMod (mB gInt [(mOp2 gMulA (mIxA (mV 0) (mK (.int 1))) (mIxA (mV 0) (mK (.int 1))))]) (mK (.int 2147483549))) (mK (.int 17)))]) (mV 1)))))
def F__law_draw : Fn := runF 3 [0, 1] m__law_draw
theorem sc__law_draw : FnScope N__law_draw P__law_draw (defScope s__law_draw) := ⟨rfl, rfl, rfl, by decide +kernel, rfl, by decide +kernel, by decide +kernel⟩
theorem ok__law_draw (bt : Bt mg) {f : Addr} {fd : FuncData} (F : FunD K "_law_draw" "_law_draw" (defArgs s__law_draw) (defBody s__law_draw) (defScope s__law_draw) [] [] f fd) : FnG P w K mg base 8 f fd P__law_draw (spF K 2 F__law_draw) :=
  fnG_of F sc__law_draw rfl fun cdv A fr s H E hr hgd =>
    have rm := rm_of hr hgd
    have S_nd := sc__law_draw.nd
    (pss_mcons (ps_mif (pt_mcmp (og_gt rm) (by first | rfl | exact nobehind _ (by decide) (by decide)) (pe_mIxA rm (pe_mV (i := 0) rfl (by (first | exact Or.inl rfl | exact Or.inr (Or.inl rfl) | exact Or.inr (Or.inr rfl))) (by decide) (by decide)) pe_mint (fun _ _ => rfl)) pe_mint) (pss_mcons (ps_masg (pe_mD (pe_mB cg_divmod rfl bt.divmod (by decide +kernel) (pa_mcons (pe_mIxA rm (pe_mV (i := 0) rfl (by (first | exact Or.inl rfl | exact Or.inr (Or.inl rfl) | exact Or.inr (Or.inr rfl))) (by decide) (by decide)) pe_mint (fun _ _ => rfl)) (pa_mcons (pe_mV (i := 1) rfl (by (first | exact Or.inl rfl | exact Or.inr (Or.inl rfl) | exact Or.inr (Or.inr rfl))) (by decide) (by decide)) pa_mnil rfl) rfl) (by decide) (by decide) rfl rfl)) (pg_mtup (n := 2) rfl (pgs_mcons (pg_msubA rm (pe_mV (i := 0) rfl (by (first | exact Or.inl rfl | exact Or.inr (Or.inl rfl) | exact Or.inr (Or.inr rfl))) (by decide) (by decide)) pe_mint (fun _ => rfl)) (pgs_mcons (pg_mname (i := 2) S_nd rfl (by (first | exact Or.inl rfl | exact Or.inr rfl)) (by (first | exact Or.inr rfl | exact Or.inl rfl))) pgs_mnil rfl) rfl) rfl rfl) rfl rfl rfl)
    (pss_mone (ps_mret (pe_mV (i := 2) rfl (by (first | exact Or.inl rfl | exact Or.inr (Or.inl rfl) | exact Or.inr (Or.inr rfl))) (by decide) (by decide))))) pss_mnil)
    (pss_mcons (ps_masg (pe_mD (pe_mbin og_mod (pe_mTy cg_int rfl bt.int (by decide +kernel) (pa_mcons (pe_mbin og_add (pe_mbin og_mulA (pe_mIxA rm (pe_mV (i := 0) rfl (by (first | exact Or.inl rfl | exact Or.inr (Or.inl rfl) | exact Or.inr (Or.inr rfl))) (by decide) (by decide)) pe_mint (fun _ _ => rfl)) pe_mint) pe_mint) pa_mnil rfl) (by decide) (by decide) rfl rfl) pe_mint)) (pg_msubA rm (pe_mV (i := 0) rfl (by (first | exact Or.inl rfl | exact Or.inr (Or.inl rfl) | exact Or.inr (Or.inr rfl))) (by decide) (by decide)) pe_mint (fun _ => rfl)) rfl rfl rfl)
    (pss_mone (ps_mret (pe_mbin og_mod (pe_mTy cg_int rfl bt.int (by decide +kernel) (pa_mcons (pe_mbin og_div (pe_mbin og_mod (pe_mTy cg_int rfl bt.int (by decide +kernel) (pa_mcons (pe_mbin og_mulA (pe_mIxA rm (pe_mV (i := 0) rfl (by (first | exact Or.inl rfl | exact Or.inr (Or.inl rfl) | exact Or.inr (Or.inr rfl))) (by decide) (by decide)) pe_mint (fun _ _ => rfl)) (pe_mIxA rm (pe_mV (i := 0) rfl (by (first | exact Or.inl rfl | exact Or.inr (Or.inl rfl) | exact Or.inr (Or.inr rfl))) (by decide) (by decide)) pe_mint (fun _ _ => rfl))) pa_mnil rfl) (by decide) (by decide) rfl rfl) pe_mint) pe_mint) pa_mnil rfl) (by decide) (by decide) rfl rfl) (pe_mV (i := 1) rfl (by (first | exact Or.inl rfl | exact Or.inr (Or.inl rfl) | exact Or.inr (Or.inr rfl))) (by decide) (by decide)))))))
theorem cal__law_draw (bt : Bt mg) {f : Addr} {fd : FuncData} (F : FunD K "_law_draw" "_law_draw" (defArgs s__law_draw) (defBody s__law_draw) (defScope s__law_draw) [] [] f fd) (hm : mg "_law_draw" = some (.ref f)) : CalG P w K mg base 8 "_law_draw" P__law_draw F__law_draw :=
  ⟨f, fd, ok__law_draw bt F, hm, F.kp, F.bindsN fun _ _ _ _ _ _ us hl => match us, hl with | [_, _], _ => rfl⟩
abbrev s__law_closed : Stmt := top 46
def N__law_closed : List Str := ["many", "pairs", "found", "turn", "more", "a", "b", "c", "d"]
def P__law_closed : List Str := ["many", "pairs"]
def _law_closed_c1 : M := mLc 9 (mIt (mV 2)) (gTp 2 (gs1 (gNm (outs 9 [7, 8]) 7) (gs1 (gNm (outs 9 [7, 8]) 8) gs0))) ((mAnd (mOp2 gEq (mV 6) (mV 7)) (mOp2 gNotInA (mTup [(mD (mV 5)), (mD (mV 8))]) (mV 2)))) (mTup [(mD (mV 5)), (mD (mV 8))]) [7, 8]
def _law_closed_b1 : MS := (mExpr (mExt (mV 4) (_law_closed_c1)))
def _law_closed_l1 : MS := mFor (mIt (mV 2)) (gTp 2 (gs1 (gNm [0, 1] 5) (gs1 (gNm [0, 1] 6) gs0))) _law_closed_b1
def _law_closed_b2 : MS := (mSeq (mSet [0, 1] 4 (mLst []))
    (mSeq (_law_closed_l1)
    (mSet [0, 1] 2 (mSSA (mOp2 gAdd (mV 2) (mV 4))))))
def _law_closed_l2 : MS := mFor (mRange rg1 [(mV 0)]) (gNm [0, 1] 3) _law_closed_b2
def m__law_closed : MS := (mSeq (mSet [0, 1] 2 (mSSA (mV 1)))
    (mSeq (_law_closed_l2)
    (mRet (mB gTuple [(mV 2)]))))
def F__law_closed : Fn := runF 9 [0, 1] m__law_closed
theorem sc__law_closed : FnScope N__law_closed P__law_closed (defScope s__law_closed) := ⟨rfl, rfl, rfl, by decide +kernel, rfl, by decide +kernel, by decide +kernel⟩
theorem ok__law_closed (bt : Bt mg) {f : Addr} {fd : FuncData} (F : FunD K "_law_closed" "_law_closed" (defArgs s__law_closed) (defBody s__law_closed) (defScope s__law_closed) [] [] f fd) : FnG P w K mg base 8 f fd P__law_closed (spF K 2 F__law_closed) :=
  fnG_of F sc__law_closed rfl fun cdv A fr s H E hr hgd =>
    have rm := rm_of hr hgd
    have S_nd := sc__law_closed.nd
    (pss_mcons (ps_mset (i := 2) S_nd rfl (by (first | exact Or.inl rfl | exact Or.inr rfl)) (pe_mSSA rm rfl rfl bt.sorted rfl bt.set (pe_mV (i := 1) rfl (by (first | exact Or.inl rfl | exact Or.inr (Or.inl rfl) | exact Or.inr (Or.inr rfl))) (by decide) (by decide)) rfl rfl rfl rfl) rfl (Or.inl rfl))
    (pss_mcons (ps_mfor (passes_of rfl) rfl (pi_mRange1 rfl bt.range (pa_mcons (pe_mV (i := 0) rfl (by (first | exact Or.inl rfl | exact Or.inr (Or.inl rfl) | exact Or.inr (Or.inr rfl))) (by decide) (by decide)) pa_mnil rfl) rfl) (pg_mname (i := 3) S_nd rfl (by (first | exact Or.inl rfl | exact Or.inr rfl)) (by (first | exact Or.inr rfl | exact Or.inl rfl))) (pss_mcons (ps_mset (i := 4) S_nd rfl (by (first | exact Or.inl rfl | exact Or.inr rfl)) (pe_mLst pa_mnil) rfl (Or.inl rfl))
    (pss_mcons (ps_mfor (passes_of rfl) rfl (pi_mIt (pe_mV (i := 2) rfl (by (first | exact Or.inl rfl | exact Or.inr (Or.inl rfl) | exact Or.inr (Or.inr rfl))) (by decide) (by decide))) (pg_mtup (n := 2) rfl (pgs_mcons (pg_mname (i := 5) S_nd rfl (by (first | exact Or.inl rfl | exact Or.inr rfl)) (by (first | exact Or.inr rfl | exact Or.inl rfl))) (pgs_mcons (pg_mname (i := 6) S_nd rfl (by (first | exact Or.inl rfl | exact Or.inr rfl)) (by (first | exact Or.inr rfl | exact Or.inl rfl))) pgs_mnil rfl) rfl) rfl rfl) (pss_mone (ps_mexpr (pe_mExt (pe_mV (i := 4) rfl (by (first | exact Or.inl rfl | exact Or.inr (Or.inl rfl) | exact Or.inr (Or.inr rfl))) (by decide) (by decide)) (pe_mLc (n := 9) (own := [("c", 7), ("d", 8)]) rfl S_nd (pi_mIt (pe_mV (i := 2) rfl (by (first | exact Or.inl rfl | exact Or.inr (Or.inl rfl) | exact Or.inr (Or.inr rfl))) (by decide) (by decide))) (blkOk_by (by kernel_rfl)) (fun _ _ _ _ _ => (pg_mtup (n := 2) rfl (pgs_mcons (pg_mname (i := 7) S_nd rfl (by (first | exact Or.inl rfl | exact Or.inr rfl)) (by (first | exact Or.inr rfl | exact Or.inl rfl))) (pgs_mcons (pg_mname (i := 8) S_nd rfl (by (first | exact Or.inl rfl | exact Or.inr rfl)) (by (first | exact Or.inr rfl | exact Or.inl rfl))) pgs_mnil rfl) rfl) rfl rfl)) (fun _ _ _ _ _ => (pts_one (pt_w (pw_mand (pt_mcmp (og_eq rm) (by first | rfl | exact nobehind _ (by decide) (by decide)) (pe_mV (i := 6) rfl (by (first | exact Or.inl rfl | exact Or.inr (Or.inl rfl) | exact Or.inr (Or.inr rfl))) (by decide) (by decide)) (pe_mV (i := 7) rfl (by (first | exact Or.inl rfl | exact Or.inr (Or.inl rfl) | exact Or.inr (Or.inr rfl))) (by decide) (by decide))) (pw_mand1 (pt_mcmp (og_notInA rm) (by first | rfl | exact nobehind _ (by decide) (by decide)) (pe_mTup (pa_mcons (pe_mD (pe_mV (i := 5) rfl (by (first | exact Or.inl rfl | exact Or.inr (Or.inl rfl) | exact Or.inr (Or.inr rfl))) (by decide) (by decide))) (pa_mcons (pe_mD (pe_mV (i := 8) rfl (by (first | exact Or.inl rfl | exact Or.inr (Or.inl rfl) | exact Or.inr (Or.inr rfl))) (by decide) (by decide))) pa_mnil rfl) rfl)) (pe_mV (i := 2) rfl (by (first | exact Or.inl rfl | exact Or.inr (Or.inl rfl) | exact Or.inr (Or.inr rfl))) (by decide) (by decide)))))))) (fun _ _ _ _ _ => (pe_mTup (pa_mcons (pe_mD (pe_mV (i := 5) rfl (by (first | exact Or.inl rfl | exact Or.inr (Or.inl rfl) | exact Or.inr (Or.inr rfl))) (by decide) (by decide))) (pa_mcons (pe_mD (pe_mV (i := 8) rfl (by (first | exact Or.inl rfl | exact Or.inr (Or.inl rfl) | exact Or.inr (Or.inr rfl))) (by decide) (by decide))) pa_mnil rfl) rfl))) (fun _ => rfl)) rfl rfl rfl rfl rfl) rfl)) (fun _ => rfl))
    (pss_mone (ps_mset (i := 2) S_nd rfl (by (first | exact Or.inl rfl | exact Or.inr rfl)) (pe_mSSA rm rfl rfl bt.sorted rfl bt.set (pe_mbin og_add (pe_mV (i := 2) rfl (by (first | exact Or.inl rfl | exact Or.inr (Or.inl rfl) | exact Or.inr (Or.inr rfl))) (by decide) (by decide)) (pe_mV (i := 4) rfl (by (first | exact Or.inl rfl | exact Or.inr (Or.inl rfl) | exact Or.inr (Or.inr rfl))) (by decide) (by decide))) rfl rfl rfl rfl) rfl (Or.inl rfl))))) (fun _ => rfl))
    (pss_mone (ps_mret (pe_mTy cg_tuple rfl bt.tuple (by decide +kernel) (pa_mcons (pe_mV (i := 2) rfl (by (first | exact Or.inl rfl | exact Or.inr (Or.inl rfl) | exact Or.inr (Or.inr rfl))) (by decide) (by decide)) pa_mnil rfl) (by decide) (by decide) rfl rfl)))))
theorem cal__law_closed (bt : Bt mg) {f : Addr} {fd : FuncData} (F : FunD K "_law_closed" "_law_closed" (defArgs s__law_closed) (defBody s__law_closed) (defScope s__law_closed) [] [] f fd) (hm : mg "_law_closed" = some (.ref f)) : CalG P w K mg base 8 "_law_closed" P__law_closed F__law_closed :=
  ⟨f, fd, ok__law_closed bt F, hm, F.kp, F.bindsN fun _ _ _ _ _ _ us hl => match us, hl with | [_, _], _ => rfl⟩
abbrev s__law_order : Stmt := top 47
def N__law_order : List Str := ["pot", "most", "many", "left", "names", "pairs", "way", "thick", "begins", "ends", "near", "far", "runner", "one"]
def P__law_order : List Str := ["pot", "most"]
def _law_order_b1 : MS := (mExpr (mOwn fAppend (mV 4) [(mD (mOwn fPopAt (mV 3) [(mD (mCall F__law_draw [(mV 0), (mLen (mV 3))]))]))]))
def _law_order_l1 : MS := mWhile (mOp2 gNe (mV 3) (mLst [])) _law_order_b1 100000
def _law_order_c1 : M := mLc 14 (mIt (mV 4)) (gNm (outs 14 [12]) 12) mYes (mCall F__law_draw [(mV 0), (mK (.int 6))]) [12]
def _law_order_c2 : M := mLc 14 (mIt (mV 8)) (gNm (outs 14 [13]) 13) mYes (mOp2 gAdd (mV 13) (mCall F__law_draw [(mV 0), (mK (.int 4))])) [13]
def _law_order_b2 : MS := (mSeq (mIfS ((mAnd (mOp2 gEq (mV 6) (mK (.int 0))) (mOp2 gLt (mIxA (mV 9) (mV 10)) (mIxA (mV 8) (mV 11))))) (mExpr (mOwn fAppend (mV 5) [(mD (mTup [(mD (mV 10)), (mD (mV 11))]))])) mSkip)
    (mIfS ((mAnd (mOp2 gGt (mV 6) (mK (.int 0))) (mAnd (mOp2 gLt (mV 10) (mV 11)) (mOp2 gLt (mCall F__law_draw [(mV 0), (mK (.int 6))]) (mV 7))))) (mExpr (mOwn fAppend (mV 5) [(mD (mTup [(mD (mIxA (mV 4) (mV 10))), (mD (mIxA (mV 4) (mV 11)))]))])) mSkip))
def _law_order_l2 : MS := mFor (mRange rg1 [(mV 2)]) (gNm [0, 1] 11) _law_order_b2
def _law_order_b3 : MS := (_law_order_l2)
def _law_order_l3 : MS := mFor (mRange rg1 [(mV 2)]) (gNm [0, 1] 10) _law_order_b3
def m__law_order : MS := (mSeq (mPar [0, 1] [2, 3, 4, 5] [(mFz (mOp2 gAdd (mK (.int 1)) (mCall F__law_draw [(mV 0), (mV 1)]))), (mFz (mLst [])), (mFz (mLst [])), (mFz (mLst []))])
    (mSeq (mSet [0, 1] 3 (mLR1 (mV 2)))
    (mSeq (_law_order_l1)
    (mSeq (mPar [0, 1] [6, 7] [(mFz (mCall F__law_draw [(mV 0), (mK (.int 3))])), (mFz (mOp2 gAdd (mK (.int 1)) (mCall F__law_draw [(mV 0), (mK (.int 4))])))])
    (mSeq (mSet [0, 1] 8 (_law_order_c1))
    (mSeq (mSet [0, 1] 9 (_law_order_c2))
    (mSeq (_law_order_l3)
    (mRet (mTup [(mK (.str "order")), (mD (mV 2)), (mD (mCall F__law_closed [(mV 2), (mV 5)]))])))))))))
def F__law_order : Fn := runF 14 [0, 1] m__law_order
theorem sc__law_order : FnScope N__law_order P__law_order (defScope s__law_order) := ⟨rfl, rfl, rfl, by decide +kernel, rfl, by decide +kernel, by decide +kernel⟩
theorem ok__law_order (bt : Bt mg) (c__law_draw : CalG P w K mg base 8 "_law_draw" P__law_draw F__law_draw) (c__law_closed : CalG P w K mg base 8 "_law_closed" P__law_closed F__law_closed) {f : Addr} {fd : FuncData} (F : FunD K "_law_order" "_law_order" (defArgs s__law_order) (defBody s__law_order) (defScope s__law_order) [] [] f fd) : FnG P w K mg base 9 f fd P__law_order (spF K 2 F__law_order) :=
  fnG_of F sc__law_order rfl fun cdv A fr s H E hr hgd =>
    have rm := rm_of hr hgd
    have S_nd := sc__law_order.nd
    (pss_mcons (ps_mparN (n := 4) rfl (pa_mcons (pe_mFz (pe_mbin og_add pe_mint (pe_mCall c__law_draw hr (by decide) hgd rfl rfl (pa_mcons (pe_mV (i := 0) rfl (by (first | exact Or.inl rfl | exact Or.inr (Or.inl rfl) | exact Or.inr (Or.inr rfl))) (by decide) (by decide)) (pa_mcons (pe_mV (i := 1) rfl (by (first | exact Or.inl rfl | exact Or.inr (Or.inl rfl) | exact Or.inr (Or.inr rfl))) (by decide) (by decide)) pa_mnil rfl) rfl) (by decide) rfl rfl))) (pa_mcons (pe_mFz (pe_mLst pa_mnil)) (pa_mcons (pe_mFz (pe_mLst pa_mnil)) (pa_mcons (pe_mFz (pe_mLst pa_mnil)) pa_mnil rfl) rfl) rfl) rfl) (pgs_cons (pg_name (i := 2) S_nd rfl (by (first | exact Or.inl rfl | exact Or.inr rfl)) (Or.inl rfl)) (pgs_cons (pg_name (i := 3) S_nd rfl (by (first | exact Or.inl rfl | exact Or.inr rfl)) (Or.inl rfl)) (pgs_cons (pg_name (i := 4) S_nd rfl (by (first | exact Or.inl rfl | exact Or.inr rfl)) (Or.inl rfl)) (pgs_cons (pg_name (i := 5) S_nd rfl (by (first | exact Or.inl rfl | exact Or.inr rfl)) (Or.inl rfl)) pgs_nil rfl) rfl) rfl) rfl) rfl rfl rfl rfl rfl rfl (by decide))
    (pss_mcons (ps_mset (i := 3) S_nd rfl (by (first | exact Or.inl rfl | exact Or.inr rfl)) (pe_mLR1 rfl rfl bt.list rfl bt.range (pe_mV (i := 2) rfl (by (first | exact Or.inl rfl | exact Or.inr (Or.inl rfl) | exact Or.inr (Or.inr rfl))) (by decide) (by decide)) rfl rfl) rfl (Or.inl rfl))
    (pss_mcons (ps_mwhile (passes_of rfl) (pt_mcmp (og_ne rm) (by first | rfl | exact nobehind _ (by decide) (by decide)) (pe_mV (i := 3) rfl (by (first | exact Or.inl rfl | exact Or.inr (Or.inl rfl) | exact Or.inr (Or.inr rfl))) (by decide) (by decide)) (pe_mLst pa_mnil)) (pss_mone (ps_mexpr (pe_mOwn PySem.F.slot_list_append PySem.F.type_list_append mt_oAppend (pe_mV (i := 4) rfl (by (first | exact Or.inl rfl | exact Or.inr (Or.inl rfl) | exact Or.inr (Or.inr rfl))) (by decide) (by decide)) (pa_mcons (pe_mD (pe_mOwn PySem.F.slot_list_pop PySem.F.type_list_pop mt_oPopAt (pe_mV (i := 3) rfl (by (first | exact Or.inl rfl | exact Or.inr (Or.inl rfl) | exact Or.inr (Or.inr rfl))) (by decide) (by decide)) (pa_mcons (pe_mD (pe_mCall c__law_draw hr (by decide) hgd rfl rfl (pa_mcons (pe_mV (i := 0) rfl (by (first | exact Or.inl rfl | exact Or.inr (Or.inl rfl) | exact Or.inr (Or.inr rfl))) (by decide) (by decide)) (pa_mcons (pe_mLen rfl bt.len (pe_mV (i := 3) rfl (by (first | exact Or.inl rfl | exact Or.inr (Or.inl rfl) | exact Or.inr (Or.inr rfl))) (by decide) (by decide)) rfl rfl) pa_mnil rfl) rfl) (by decide) rfl rfl)) pa_mnil rfl) rfl rfl rfl rfl rfl)) pa_mnil rfl) rfl rfl rfl rfl rfl) rfl)))
    (pss_mcons (ps_mpar2 (i := 6) (j := 7) rfl S_nd rfl rfl (by decide) rfl rfl (pa_mcons (pe_mFz (pe_mCall c__law_draw hr (by decide) hgd rfl rfl (pa_mcons (pe_mV (i := 0) rfl (by (first | exact Or.inl rfl | exact Or.inr (Or.inl rfl) | exact Or.inr (Or.inr rfl))) (by decide) (by decide)) (pa_mcons pe_mint pa_mnil rfl) rfl) (by decide) rfl rfl)) (pa_mcons (pe_mFz (pe_mbin og_add pe_mint (pe_mCall c__law_draw hr (by decide) hgd rfl rfl (pa_mcons (pe_mV (i := 0) rfl (by (first | exact Or.inl rfl | exact Or.inr (Or.inl rfl) | exact Or.inr (Or.inr rfl))) (by decide) (by decide)) (pa_mcons pe_mint pa_mnil rfl) rfl) (by decide) rfl rfl))) pa_mnil rfl) rfl) rfl rfl)
    (pss_mcons (ps_msetLc (i := 8) (n := 14) (own := [("runner", 12)]) rfl S_nd rfl rfl rfl (pi_mIt (pe_mV (i := 4) rfl (by (first | exact Or.inl rfl | exact Or.inr (Or.inl rfl) | exact Or.inr (Or.inr rfl))) (by decide) (by decide))) (blkOk_by (by kernel_rfl)) (fun _ _ _ _ _ => (pg_mname (i := 12) S_nd rfl (by (first | exact Or.inl rfl | exact Or.inr rfl)) (by (first | exact Or.inr rfl | exact Or.inl rfl)))) (fun _ _ _ _ _ => pts_mnil) (fun _ _ _ _ _ => (pe_mCall c__law_draw hr (by decide) hgd rfl rfl (pa_mcons (pe_mV (i := 0) rfl (by (first | exact Or.inl rfl | exact Or.inr (Or.inl rfl) | exact Or.inr (Or.inr rfl))) (by decide) (by decide)) (pa_mcons pe_mint pa_mnil rfl) rfl) (by decide) rfl rfl)) (fun _ => rfl))
    (pss_mcons (ps_msetLc (i := 9) (n := 14) (own := [("one", 13)]) rfl S_nd rfl rfl rfl (pi_mIt (pe_mV (i := 8) rfl (by (first | exact Or.inl rfl | exact Or.inr (Or.inl rfl) | exact Or.inr (Or.inr rfl))) (by decide) (by decide))) (blkOk_by (by kernel_rfl)) (fun _ _ _ _ _ => (pg_mname (i := 13) S_nd rfl (by (first | exact Or.inl rfl | exact Or.inr rfl)) (by (first | exact Or.inr rfl | exact Or.inl rfl)))) (fun _ _ _ _ _ => pts_mnil) (fun _ _ _ _ _ => (pe_mbin og_add (pe_mV (i := 13) rfl (by (first | exact Or.inl rfl | exact Or.inr (Or.inl rfl) | exact Or.inr (Or.inr rfl))) (by decide) (by decide)) (pe_mCall c__law_draw hr (by decide) hgd rfl rfl (pa_mcons (pe_mV (i := 0) rfl (by (first | exact Or.inl rfl | exact Or.inr (Or.inl rfl) | exact Or.inr (Or.inr rfl))) (by decide) (by decide)) (pa_mcons pe_mint pa_mnil rfl) rfl) (by decide) rfl rfl))) (fun _ => rfl))
    (pss_mcons (ps_mfor (passes_of rfl) rfl (pi_mRange1 rfl bt.range (pa_mcons (pe_mV (i := 2) rfl (by (first | exact Or.inl rfl | exact Or.inr (Or.inl rfl) | exact Or.inr (Or.inr rfl))) (by decide) (by decide)) pa_mnil rfl) rfl) (pg_mname (i := 10) S_nd rfl (by (first | exact Or.inl rfl | exact Or.inr rfl)) (by (first | exact Or.inr rfl | exact Or.inl rfl))) (pss_mone (ps_mfor (passes_of rfl) rfl (pi_mRange1 rfl bt.range (pa_mcons (pe_mV (i := 2) rfl (by (first | exact Or.inl rfl | exact Or.inr (Or.inl rfl) | exact Or.inr (Or.inr rfl))) (by decide) (by decide)) pa_mnil rfl) rfl) (pg_mname (i := 11) S_nd rfl (by (first | exact Or.inl rfl | exact Or.inr rfl)) (by (first | exact Or.inr rfl | exact Or.inl rfl))) (pss_mcons (ps_mif (pt_w (pw_mand (pt_mcmp (og_eq rm) (by first | rfl | exact nobehind _ (by decide) (by decide)) (pe_mV (i := 6) rfl (by (first | exact Or.inl rfl | exact Or.inr (Or.inl rfl) | exact Or.inr (Or.inr rfl))) (by decide) (by decide)) pe_mint) (pw_mand1 (pt_mcmp (og_lt rm) (by first | rfl | exact nobehind _ (by decide) (by decide)) (pe_mIxA rm (pe_mV (i := 9) rfl (by (first | exact Or.inl rfl | exact Or.inr (Or.inl rfl) | exact Or.inr (Or.inr rfl))) (by decide) (by decide)) (pe_mV (i := 10) rfl (by (first | exact Or.inl rfl | exact Or.inr (Or.inl rfl) | exact Or.inr (Or.inr rfl))) (by decide) (by decide)) (fun _ _ => rfl)) (pe_mIxA rm (pe_mV (i := 8) rfl (by (first | exact Or.inl rfl | exact Or.inr (Or.inl rfl) | exact Or.inr (Or.inr rfl))) (by decide) (by decide)) (pe_mV (i := 11) rfl (by (first | exact Or.inl rfl | exact Or.inr (Or.inl rfl) | exact Or.inr (Or.inr rfl))) (by decide) (by decide)) (fun _ _ => rfl)))))) (pss_mone (ps_mexpr (pe_mOwn PySem.F.slot_list_append PySem.F.type_list_append mt_oAppend (pe_mV (i := 5) rfl (by (first | exact Or.inl rfl | exact Or.inr (Or.inl rfl) | exact Or.inr (Or.inr rfl))) (by decide) (by decide)) (pa_mcons (pe_mD (pe_mTup (pa_mcons (pe_mD (pe_mV (i := 10) rfl (by (first | exact Or.inl rfl | exact Or.inr (Or.inl rfl) | exact Or.inr (Or.inr rfl))) (by decide) (by decide))) (pa_mcons (pe_mD (pe_mV (i := 11) rfl (by (first | exact Or.inl rfl | exact Or.inr (Or.inl rfl) | exact Or.inr (Or.inr rfl))) (by decide) (by decide))) pa_mnil rfl) rfl))) pa_mnil rfl) rfl rfl rfl rfl rfl) rfl)) pss_mnil)
    (pss_mone (ps_mif (pt_w (pw_mand (pt_mcmp (og_gt rm) (by first | rfl | exact nobehind _ (by decide) (by decide)) (pe_mV (i := 6) rfl (by (first | exact Or.inl rfl | exact Or.inr (Or.inl rfl) | exact Or.inr (Or.inr rfl))) (by decide) (by decide)) pe_mint) (pw_mand (pt_mcmp (og_lt rm) (by first | rfl | exact nobehind _ (by decide) (by decide)) (pe_mV (i := 10) rfl (by (first | exact Or.inl rfl | exact Or.inr (Or.inl rfl) | exact Or.inr (Or.inr rfl))) (by decide) (by decide)) (pe_mV (i := 11) rfl (by (first | exact Or.inl rfl | exact Or.inr (Or.inl rfl) | exact Or.inr (Or.inr rfl))) (by decide) (by decide))) (pw_mand1 (pt_mcmp (og_lt rm) (by first | rfl | exact nobehind _ (by decide) (by decide)) (pe_mCall c__law_draw hr (by decide) hgd rfl rfl (pa_mcons (pe_mV (i := 0) rfl (by (first | exact Or.inl rfl | exact Or.inr (Or.inl rfl) | exact Or.inr (Or.inr rfl))) (by decide) (by decide)) (pa_mcons pe_mint pa_mnil rfl) rfl) (by decide) rfl rfl) (pe_mV (i := 7) rfl (by (first | exact Or.inl rfl | exact Or.inr (Or.inl rfl) | exact Or.inr (Or.inr rfl))) (by decide) (by decide))))))) (pss_mone (ps_mexpr (pe_mOwn PySem.F.slot_list_append PySem.F.type_list_append mt_oAppend (pe_mV (i := 5) rfl (by (first | exact Or.inl rfl | exact Or.inr (Or.inl rfl) | exact Or.inr (Or.inr rfl))) (by decide) (by decide)) (pa_mcons (pe_mD (pe_mTup (pa_mcons (pe_mD (pe_mIxA rm (pe_mV (i := 4) rfl (by (first | exact Or.inl rfl | exact Or.inr (Or.inl rfl) | exact Or.inr (Or.inr rfl))) (by decide) (by decide)) (pe_mV (i := 10) rfl (by (first | exact Or.inl rfl | exact Or.inr (Or.inl rfl) | exact Or.inr (Or.inr rfl))) (by decide) (by decide)) (fun _ _ => rfl))) (pa_mcons (pe_mD (pe_mIxA rm (pe_mV (i := 4) rfl (by (first | exact Or.inl rfl | exact Or.inr (Or.inl rfl) | exact Or.inr (Or.inr rfl))) (by decide) (by decide)) (pe_mV (i := 11) rfl (by (first | exact Or.inl rfl | exact Or.inr (Or.inl rfl) | exact Or.inr (Or.inr rfl))) (by decide) (by decide)) (fun _ _ => rfl))) pa_mnil rfl) rfl))) pa_mnil rfl) rfl rfl rfl rfl rfl) rfl)) pss_mnil))) (fun _ => rfl))) (fun _ => rfl))
    (pss_mone (ps_mret (pe_mTup (pa_mcons pe_mstr (pa_mcons (pe_mD (pe_mV (i := 2) rfl (by (first | exact Or.inl rfl | exact Or.inr (Or.inl rfl) | exact Or.inr (Or.inr rfl))) (by decide) (by decide))) (pa_mcons (pe_mD (pe_mCall c__law_closed hr (by decide) hgd rfl rfl (pa_mcons (pe_mV (i := 2) rfl (by (first | exact Or.inl rfl | exact Or.inr (Or.inl rfl) | exact Or.inr (Or.inr rfl))) (by decide) (by decide)) (pa_mcons (pe_mV (i := 5) rfl (by (first | exact Or.inl rfl | exact Or.inr (Or.inl rfl) | exact Or.inr (Or.inr rfl))) (by decide) (by decide)) pa_mnil rfl) rfl) (by decide) rfl rfl)) pa_mnil rfl) rfl) rfl)))))))))))
theorem cal__law_order (bt : Bt mg) (c__law_draw : CalG P w K mg base 8 "_law_draw" P__law_draw F__law_draw) (c__law_closed : CalG P w K mg base 8 "_law_closed" P__law_closed F__law_closed) {f : Addr} {fd : FuncData} (F : FunD K "_law_order" "_law_order" (defArgs s__law_order) (defBody s__law_order) (defScope s__law_order) [] [] f fd) (hm : mg "_law_order" = some (.ref f)) : CalG P w K mg base 9 "_law_order" P__law_order F__law_order :=
  ⟨f, fd, ok__law_order bt c__law_draw c__law_closed F, hm, F.kp, F.bindsN fun _ _ _ _ _ _ us hl => match us, hl with | [_, _], _ => rfl⟩
abbrev s__law_apart : Stmt := top 48
def N__law_apart : List Str := ["order", "one", "other"]
def P__law_apart : List Str := ["order", "one", "other"]
def m__law_apart : MS := (mRet ((mAnd (mOp2 gNe (mV 1) (mV 2)) (mAnd (mOp2 gNotInA (mTup [(mD (mV 1)), (mD (mV 2))]) (mIxA (mV 0) (mK (.int 2)))) (mOp2 gNotInA (mTup [(mD (mV 2)), (mD (mV 1))]) (mIxA (mV 0) (mK (.int 2))))))))
def F__law_apart : Fn := runF 3 [0, 1, 2] m__law_apart
theorem sc__law_apart : FnScope N__law_apart P__law_apart (defScope s__law_apart) := ⟨rfl, rfl, rfl, by decide +kernel, rfl, by decide +kernel, by decide +kernel⟩
theorem ok__law_apart (bt : Bt mg) {f : Addr} {fd : FuncData} (F : FunD K "_law_apart" "_law_apart" (defArgs s__law_apart) (defBody s__law_apart) (defScope s__law_apart) [] [] f fd) : FnG P w K mg base 8 f fd P__law_apart (spF K 3 F__law_apart) :=
  fnG_of F sc__law_apart rfl fun cdv A fr s H E hr hgd =>
    have rm := rm_of hr hgd
    have S_nd := sc__law_apart.nd
    (pss_mone (ps_mret (pe_mand (pe_mcmp (og_ne rm) (by first | rfl | exact nobehind _ (by decide) (by decide)) (pe_mV (i := 1) rfl (by (first | exact Or.inl rfl | exact Or.inr (Or.inl rfl) | exact Or.inr (Or.inr rfl))) (by decide) (by decide)) (pe_mV (i := 2) rfl (by (first | exact Or.inl rfl | exact Or.inr (Or.inl rfl) | exact Or.inr (Or.inr rfl))) (by decide) (by decide))) (pe_mand (pe_mcmp (og_notInA rm) (by first | rfl | exact nobehind _ (by decide) (by decide)) (pe_mTup (pa_mcons (pe_mD (pe_mV (i := 1) rfl (by (first | exact Or.inl rfl | exact Or.inr (Or.inl rfl) | exact Or.inr (Or.inr rfl))) (by decide) (by decide))) (pa_mcons (pe_mD (pe_mV (i := 2) rfl (by (first | exact Or.inl rfl | exact Or.inr (Or.inl rfl) | exact Or.inr (Or.inr rfl))) (by decide) (by decide))) pa_mnil rfl) rfl)) (pe_mIxA rm (pe_mV (i := 0) rfl (by (first | exact Or.inl rfl | exact Or.inr (Or.inl rfl) | exact Or.inr (Or.inr rfl))) (by decide) (by decide)) pe_mint (fun _ _ => rfl))) (pe_mone (pe_mcmp (og_notInA rm) (by first | rfl | exact nobehind _ (by decide) (by decide)) (pe_mTup (pa_mcons (pe_mD (pe_mV (i := 2) rfl (by (first | exact Or.inl rfl | exact Or.inr (Or.inl rfl) | exact Or.inr (Or.inr rfl))) (by decide) (by decide))) (pa_mcons (pe_mD (pe_mV (i := 1) rfl (by (first | exact Or.inl rfl | exact Or.inr (Or.inl rfl) | exact Or.inr (Or.inr rfl))) (by decide) (by decide))) pa_mnil rfl) rfl)) (pe_mIxA rm (pe_mV (i := 0) rfl (by (first | exact Or.inl rfl | exact Or.inr (Or.inl rfl) | exact Or.inr (Or.inr rfl))) (by decide) (by decide)) pe_mint (fun _ _ => rfl))))))))
theorem cal__law_apart (bt : Bt mg) {f : Addr} {fd : FuncData} (F : FunD K "_law_apart" "_law_apart" (defArgs s__law_apart) (defBody s__law_apart) (defScope s__law_apart) [] [] f fd) (hm : mg "_law_apart" = some (.ref f)) : CalG P w K mg base 8 "_law_apart" P__law_apart F__law_apart :=
  ⟨f, fd, ok__law_apart bt F, hm, F.kp, F.bindsN fun _ _ _ _ _ _ us hl => match us, hl with | [_, _, _], _ => rfl⟩
abbrev s__law_right : Stmt := top 49
def N__law_right : List Str := ["pot", "order", "shown", "many", "near", "a", "b", "pair", "late", "every", "one", "far", "runner", "due", "turn", "other", "row", "c"]
def P__law_right : List Str := ["pot"]
def _law_right_c1 : M := mLc 18 (mRange rg1 [(mV 3)]) (gNm (outs 18 [17]) 17) mYes ((mAnd (mOp2 gInA (mTup [(mD (mV 5)), (mD (mV 17))]) (mIxA (mV 1) (mK (.int 2)))) (mOp2 gInA (mTup [(mD (mV 17)), (mD (mV 6))]) (mIxA (mV 1) (mK (.int 2)))))) [17]
def _law_right_b1 : MS := (mSet [0] 4 (mOp2 gAdd (mV 4) (mIf (mB gAny [(_law_right_c1)]) (mLst []) (mLst [(mD (mTup [(mD (mV 5)), (mD (mV 6))]))]))))
def _law_right_l1 : MS := mFor (mIt (mIxA (mV 1) (mK (.int 2)))) (gTp 2 (gs1 (gNm [0] 5) (gs1 (gNm [0] 6) gs0))) _law_right_b1
def _law_right_c2 : M := mLc 18 (mIt (mV 4)) (gNm (outs 18 [10]) 10) (mOp2 gNe (mV 10) (mV 7)) (mV 10) [10]
def _law_right_b2 : MS := (mSeq (mSet [0] 8 (mCall F_order_of [(mV 3), (_law_right_c2)]))
    (mIfS ((mOr (mOp2 gEq (mV 8) (mV 1)) (mOr (mOp2 gIs (mV 8) (mK .none)) (mOp2 gInA (mV 7) (mIxA (mV 8) (mK (.int 2))))))) (mRet (mK (.bool false))) mSkip))
def _law_right_l2 : MS := mFor (mIt (mV 4)) (gNm [0] 7) _law_right_b2
def _law_right_c3 : M := mLc 18 (mRange rg2 [(mOp2 gAdd (mV 10) (mK (.int 1))), (mV 3)]) (gNm (outs 18 [15]) 15) (mCall F__law_apart [(mV 1), (mV 10), (mV 15)]) (mTup [(mD (mV 10)), (mD (mV 15))]) [15]
def _law_right_b3 : MS := (mExpr (mExt (mV 9) (_law_right_c3)))
def _law_right_l3 : MS := mFor (mRange rg1 [(mV 3)]) (gNm [0] 10) _law_right_b3
def _law_right_c4 : M := mLc 18 (mRange rg1 [(mV 3)]) (gNm (outs 18 [5]) 5) (mOp2 gInA (mTup [(mD (mV 5)), (mD (mV 12))]) (mIxA (mV 1) (mK (.int 2)))) (mV 5) [5]
def _law_right_c5 : M := mLc 18 (mRange rg1 [(mV 3)]) (gNm (outs 18 [6]) 6) (mOp2 gInA (mTup [(mD (mV 12)), (mD (mV 6))]) (mIxA (mV 1) (mK (.int 2)))) (mV 6) [6]
def _law_right_b4 : MS := (mSeq (mSet [0] 13 (mLst [(mD (mB gTuple [(_law_right_c4)])), (mD (mB gTuple [(_law_right_c5)]))]))
    (mSeq (mIfS ((mOr (mOp2 gNe (mB gReprD [(mLst [(mD (mCall F_ahead [(mV 1), (mV 12)])), (mD (mCall F_behind [(mV 1), (mV 12)]))])]) (mB gReprD [(mV 13)])) (mOp2 gNe (mLst [(mD (mCall F_behind [(mV 11), (mV 12)])), (mD (mCall F_ahead [(mV 11), (mV 12)]))]) (mV 13)))) (mRet (mK (.bool false))) mSkip)
    (mIfS (mOp2 gNe (mB gReprD [(mLst [(mD (mCallK F_ahead [1, 0] [] [(mV 12), (mV 1)])), (mD (mCallK F_behind [1, 0] [] [(mV 12), (mV 1)]))])]) (mB gReprD [(mV 13)])) (mRet (mK (.bool false))) mSkip)))
def _law_right_l4 : MS := mFor (mRange rg1 [(mV 3)]) (gNm [0] 12) _law_right_b4
def _law_right_b5 : MS := (mSeq (mSet [0] 10 (mCall F__law_draw [(mV 0), (mV 3)]))
    (mSeq (mSet [0] 15 (mB gInt [(mOp2 gMod (mOp2 gAdd (mOp2 gAdd (mV 10) (mK (.int 1))) (mCall F__law_draw [(mV 0), (mOp2 gSub (mV 3) (mK (.int 1)))])) (mV 3))]))
    (mSeq (mSet [0] 8 (mLst [(mD (mCall F_with_report [(mV 1), (mTup [(mD (mV 10)), (mD (mV 15))])])), (mD (mCall F_with_report [(mV 1), (mTup [(mD (mV 15)), (mD (mV 10))])]))]))
    (mSeq (mIfS (mOp2 gNe (mCall F__law_apart [(mV 1), (mV 10), (mV 15)]) ((mAnd (mOp2 gNotInA (mK .none) (mV 8)) (mAnd (mOp2 gNe (mIxA (mV 8) (mK (.int 0))) (mIxA (mV 8) (mK (.int 1)))) (mOp2 gNotInA (mV 1) (mV 8)))))) (mRet (mK (.bool false))) mSkip)
    (mIfS (mOp2 gInA (mTup [(mD (mV 10)), (mD (mV 15))]) (mIxA (mV 1) (mK (.int 2)))) (mSeq (mSet [0] 16 (mCall F_why [(mV 3), (mV 4), (mTup [(mD (mV 10)), (mD (mV 15))])]))
    (mIfS ((mOr (mOp2 gNe (mV 8) (mLst [(mD (mV 1)), (mK .none)])) (mOp2 gIsNot (mCall F_is_why [(mV 3), (mV 4), (mTup [(mD (mV 10)), (mD (mV 15))]), (mV 16)]) (mK (.bool true))))) (mRet (mK (.bool false))) mSkip)) mSkip)))))
def _law_right_l5 : MS := mFor (mRange rg1 [(mIf (mOp2 gGt (mV 3) (mK (.int 1))) (mK (.int 6)) (mK (.int 0)))]) (gNm [0] 14) _law_right_b5
def m__law_right : MS := (mSeq (mSet [0] 1 (mCall F__law_order [(mV 0), (mK (.int 8))]))
    (mSeq (mPar [0] [2, 3] [(mFz (mB gReprD [(mV 1)])), (mFz (mIxA (mV 1) (mK (.int 1))))])
    (mSeq (mSet [0] 4 (mLst []))
    (mSeq (_law_right_l1)
    (mSeq (mSet [0] 4 (mB gTuple [(mV 4)]))
    (mSeq (mIfS ((mOr (mOp2 gNe (mB gReprD [(mLst [(mD (mCall F_neighbours [(mV 1)])), (mD (mCallK F_neighbours [0] [] [(mV 1)]))])]) (mB gReprD [(mLst [(mD (mV 4)), (mD (mV 4))])])) (mOp2 gNe (mCall F_order_of [(mV 3), (mV 4)]) (mV 1)))) (mRet (mK (.bool false))) mSkip)
    (mSeq (_law_right_l2)
    (mSeq (mSet [0] 9 (mLst []))
    (mSeq (_law_right_l3)
    (mSeq (mIfS (mOp2 gNe (mB gReprD [(mLst [(mD (mCall F_apart [(mV 1)])), (mD (mCallK F_apart [0] [] [(mV 1)]))])]) (mB gReprD [(mOp2 gMulA (mLst [(mD (mB gTuple [(mV 9)]))]) (mK (.int 2)))])) (mRet (mK (.bool false))) mSkip)
    (mSeq (mSet [0] 11 (mCall F_turned_about [(mV 1)]))
    (mSeq (_law_right_l4)
    (mSeq (_law_right_l5)
    (mRet ((mAnd (mOp2 gIs (mCall F_is_order [(mV 11)]) (mK (.bool true))) (mOp2 gEq (mB gReprD [(mV 1)]) (mV 2))))))))))))))))))
def F__law_right : Fn := runF 18 [0] m__law_right
theorem sc__law_right : FnScope N__law_right P__law_right (defScope s__law_right) := ⟨rfl, rfl, rfl, by decide +kernel, rfl, by decide +kernel, by decide +kernel⟩
theorem ok__law_right (bt : Bt mg) (c__law_order : CalG P w K mg base 9 "_law_order" P__law_order F__law_order) (c_neighbours : CalG P w K mg base 13 "neighbours" P_neighbours F_neighbours) (c_order_of : CalG P w K mg base 13 "order_of" P_order_of F_order_of) (c__law_apart : CalG P w K mg base 8 "_law_apart" P__law_apart F__law_apart) (c_apart : CalG P w K mg base 13 "apart" P_apart F_apart) (c_turned_about : CalG P w K mg base 13 "turned_about" P_turned_about F_turned_about) (c_ahead : CalG P w K mg base 13 "ahead" P_ahead F_ahead) (c_behind : CalG P w K mg base 13 "behind" P_behind F_behind) (c__law_draw : CalG P w K mg base 8 "_law_draw" P__law_draw F__law_draw) (c_with_report : CalG P w K mg base 13 "with_report" P_with_report F_with_report) (c_why : CalG P w K mg base 13 "why" P_why F_why) (c_is_why : CalG P w K mg base 13 "is_why" P_is_why F_is_why) (c_is_order : CalG P w K mg base 12 "is_order" P_is_order F_is_order) (k_neighbours_order : CalK P w K mg base 13 "neighbours" 0 P_neighbours ["order"] [0] F_neighbours) (k_apart_order : CalK P w K mg base 13 "apart" 0 P_apart ["order"] [0] F_apart) (k_ahead_runner_order : CalK P w K mg base 13 "ahead" 0 P_ahead ["runner", "order"] [1, 0] F_ahead) (k_behind_runner_order : CalK P w K mg base 13 "behind" 0 P_behind ["runner", "order"] [1, 0] F_behind) {f : Addr} {fd : FuncData} (F : FunD K "_law_right" "_law_right" (defArgs s__law_right) (defBody s__law_right) (defScope s__law_right) [] [] f fd) : FnG P w K mg base 14 f fd P__law_right (spF K 1 F__law_right) :=
  fnG_of F sc__law_right rfl fun cdv A fr s H E hr hgd =>
    have rm := rm_of hr hgd
    have S_nd := sc__law_right.nd
    (pss_mcons (ps_mset (i := 1) S_nd rfl (by (first | exact Or.inl rfl | exact Or.inr rfl)) (pe_mCall c__law_order hr (by decide) hgd rfl rfl (pa_mcons (pe_mV (i := 0) rfl (by (first | exact Or.inl rfl | exact Or.inr (Or.inl rfl) | exact Or.inr (Or.inr rfl))) (by decide) (by decide)) (pa_mcons pe_mint pa_mnil rfl) rfl) (by decide) rfl rfl) rfl (Or.inl rfl))
    (pss_mcons (ps_mpar2 (i := 2) (j := 3) rfl S_nd rfl rfl (by decide) rfl rfl (pa_mcons (pe_mFz (pe_mB (cg_reprD rm) rfl bt.repr (by decide +kernel) (pa_mcons (pe_mV (i := 1) rfl (by (first | exact Or.inl rfl | exact Or.inr (Or.inl rfl) | exact Or.inr (Or.inr rfl))) (by decide) (by decide)) pa_mnil rfl) (by decide) (by decide) rfl rfl)) (pa_mcons (pe_mFz (pe_mIxA rm (pe_mV (i := 1) rfl (by (first | exact Or.inl rfl | exact Or.inr (Or.inl rfl) | exact Or.inr (Or.inr rfl))) (by decide) (by decide)) pe_mint (fun _ _ => rfl))) pa_mnil rfl) rfl) rfl rfl)
    (pss_mcons (ps_mset (i := 4) S_nd rfl (by (first | exact Or.inl rfl | exact Or.inr rfl)) (pe_mLst pa_mnil) rfl (Or.inl rfl))
    (pss_mcons (ps_mfor (passes_of rfl) rfl (pi_mIt (pe_mIxA rm (pe_mV (i := 1) rfl (by (first | exact Or.inl rfl | exact Or.inr (Or.inl rfl) | exact Or.inr (Or.inr rfl))) (by decide) (by decide)) pe_mint (fun _ _ => rfl))) (pg_mtup (n := 2) rfl (pgs_mcons (pg_mname (i := 5) S_nd rfl (by (first | exact Or.inl rfl | exact Or.inr rfl)) (by (first | exact Or.inr rfl | exact Or.inl rfl))) (pgs_mcons (pg_mname (i := 6) S_nd rfl (by (first | exact Or.inl rfl | exact Or.inr rfl)) (by (first | exact Or.inr rfl | exact Or.inl rfl))) pgs_mnil rfl) rfl) rfl rfl) (pss_mone (ps_mset (i := 4) S_nd rfl (by (first | exact Or.inl rfl | exact Or.inr rfl)) (pe_mbin og_add (pe_mV (i := 4) rfl (by (first | exact Or.inl rfl | exact Or.inr (Or.inl rfl) | exact Or.inr (Or.inr rfl))) (by decide) (by decide)) (pe_mif (pt_mval (pe_mB (cg_any rfl) rfl bt.any (by decide +kernel) (pa_mcons (pe_mLc (n := 18) (own := [("c", 17)]) rfl S_nd (pi_mRange1 rfl bt.range (pa_mcons (pe_mV (i := 3) rfl (by (first | exact Or.inl rfl | exact Or.inr (Or.inl rfl) | exact Or.inr (Or.inr rfl))) (by decide) (by decide)) pa_mnil rfl) rfl) (blkOk_by (by kernel_rfl)) (fun _ _ _ _ _ => (pg_mname (i := 17) S_nd rfl (by (first | exact Or.inl rfl | exact Or.inr rfl)) (by (first | exact Or.inr rfl | exact Or.inl rfl)))) (fun _ _ _ _ _ => pts_mnil) (fun _ _ _ _ _ => (pe_mand (pe_mcmp (og_inA rm) (by first | rfl | exact nobehind _ (by decide) (by decide)) (pe_mTup (pa_mcons (pe_mD (pe_mV (i := 5) rfl (by (first | exact Or.inl rfl | exact Or.inr (Or.inl rfl) | exact Or.inr (Or.inr rfl))) (by decide) (by decide))) (pa_mcons (pe_mD (pe_mV (i := 17) rfl (by (first | exact Or.inl rfl | exact Or.inr (Or.inl rfl) | exact Or.inr (Or.inr rfl))) (by decide) (by decide))) pa_mnil rfl) rfl)) (pe_mIxA rm (pe_mV (i := 1) rfl (by (first | exact Or.inl rfl | exact Or.inr (Or.inl rfl) | exact Or.inr (Or.inr rfl))) (by decide) (by decide)) pe_mint (fun _ _ => rfl))) (pe_mone (pe_mcmp (og_inA rm) (by first | rfl | exact nobehind _ (by decide) (by decide)) (pe_mTup (pa_mcons (pe_mD (pe_mV (i := 17) rfl (by (first | exact Or.inl rfl | exact Or.inr (Or.inl rfl) | exact Or.inr (Or.inr rfl))) (by decide) (by decide))) (pa_mcons (pe_mD (pe_mV (i := 6) rfl (by (first | exact Or.inl rfl | exact Or.inr (Or.inl rfl) | exact Or.inr (Or.inr rfl))) (by decide) (by decide))) pa_mnil rfl) rfl)) (pe_mIxA rm (pe_mV (i := 1) rfl (by (first | exact Or.inl rfl | exact Or.inr (Or.inl rfl) | exact Or.inr (Or.inr rfl))) (by decide) (by decide)) pe_mint (fun _ _ => rfl)))))) (fun _ => rfl)) pa_mnil rfl) (by decide) (by decide) rfl rfl) (fun _ => rfl)) (pe_mLst pa_mnil) (pe_mLst (pa_mcons (pe_mD (pe_mTup (pa_mcons (pe_mD (pe_mV (i := 5) rfl (by (first | exact Or.inl rfl | exact Or.inr (Or.inl rfl) | exact Or.inr (Or.inr rfl))) (by decide) (by decide))) (pa_mcons (pe_mD (pe_mV (i := 6) rfl (by (first | exact Or.inl rfl | exact Or.inr (Or.inl rfl) | exact Or.inr (Or.inr rfl))) (by decide) (by decide))) pa_mnil rfl) rfl))) pa_mnil rfl)))) rfl (Or.inl rfl))) (fun _ => rfl))
    (pss_mcons (ps_mset (i := 4) S_nd rfl (by (first | exact Or.inl rfl | exact Or.inr rfl)) (pe_mTy cg_tuple rfl bt.tuple (by decide +kernel) (pa_mcons (pe_mV (i := 4) rfl (by (first | exact Or.inl rfl | exact Or.inr (Or.inl rfl) | exact Or.inr (Or.inr rfl))) (by decide) (by decide)) pa_mnil rfl) (by decide) (by decide) rfl rfl) rfl (Or.inl rfl))
    (pss_mcons (ps_mif (pt_w (pw_mor (pt_mcmp (og_ne rm) (by first | rfl | exact nobehind _ (by decide) (by decide)) (pe_mB (cg_reprD rm) rfl bt.repr (by decide +kernel) (pa_mcons (pe_mLst (pa_mcons (pe_mD (pe_mCall c_neighbours hr (by decide) hgd rfl rfl (pa_mcons (pe_mV (i := 1) rfl (by (first | exact Or.inl rfl | exact Or.inr (Or.inl rfl) | exact Or.inr (Or.inr rfl))) (by decide) (by decide)) pa_mnil rfl) (by decide) rfl rfl)) (pa_mcons (pe_mD (pe_mCallK0 k_neighbours_order hr (by decide) hgd rfl rfl rfl (pk_mcons (pe_mV (i := 1) rfl (by (first | exact Or.inl rfl | exact Or.inr (Or.inl rfl) | exact Or.inr (Or.inr rfl))) (by decide) (by decide)) pk_mnil) (by decide) rfl rfl rfl)) pa_mnil rfl) rfl)) pa_mnil rfl) (by decide) (by decide) rfl rfl) (pe_mB (cg_reprD rm) rfl bt.repr (by decide +kernel) (pa_mcons (pe_mLst (pa_mcons (pe_mD (pe_mV (i := 4) rfl (by (first | exact Or.inl rfl | exact Or.inr (Or.inl rfl) | exact Or.inr (Or.inr rfl))) (by decide) (by decide))) (pa_mcons (pe_mD (pe_mV (i := 4) rfl (by (first | exact Or.inl rfl | exact Or.inr (Or.inl rfl) | exact Or.inr (Or.inr rfl))) (by decide) (by decide))) pa_mnil rfl) rfl)) pa_mnil rfl) (by decide) (by decide) rfl rfl)) (pw_mor1 (pt_mcmp (og_ne rm) (by first | rfl | exact nobehind _ (by decide) (by decide)) (pe_mCall c_order_of hr (by decide) hgd rfl rfl (pa_mcons (pe_mV (i := 3) rfl (by (first | exact Or.inl rfl | exact Or.inr (Or.inl rfl) | exact Or.inr (Or.inr rfl))) (by decide) (by decide)) (pa_mcons (pe_mV (i := 4) rfl (by (first | exact Or.inl rfl | exact Or.inr (Or.inl rfl) | exact Or.inr (Or.inr rfl))) (by decide) (by decide)) pa_mnil rfl) rfl) (by decide) rfl rfl) (pe_mV (i := 1) rfl (by (first | exact Or.inl rfl | exact Or.inr (Or.inl rfl) | exact Or.inr (Or.inr rfl))) (by decide) (by decide)))))) (pss_mone (ps_mret pe_mbl)) pss_mnil)
    (pss_mcons (ps_mfor (passes_of rfl) rfl (pi_mIt (pe_mV (i := 4) rfl (by (first | exact Or.inl rfl | exact Or.inr (Or.inl rfl) | exact Or.inr (Or.inr rfl))) (by decide) (by decide))) (pg_mname (i := 7) S_nd rfl (by (first | exact Or.inl rfl | exact Or.inr rfl)) (by (first | exact Or.inr rfl | exact Or.inl rfl))) (pss_mcons (ps_mset (i := 8) S_nd rfl (by (first | exact Or.inl rfl | exact Or.inr rfl)) (pe_mCall c_order_of hr (by decide) hgd rfl rfl (pa_mcons (pe_mV (i := 3) rfl (by (first | exact Or.inl rfl | exact Or.inr (Or.inl rfl) | exact Or.inr (Or.inr rfl))) (by decide) (by decide)) (pa_mcons (pe_mLc (n := 18) (own := [("one", 10)]) rfl S_nd (pi_mIt (pe_mV (i := 4) rfl (by (first | exact Or.inl rfl | exact Or.inr (Or.inl rfl) | exact Or.inr (Or.inr rfl))) (by decide) (by decide))) (blkOk_by (by kernel_rfl)) (fun _ _ _ _ _ => (pg_mname (i := 10) S_nd rfl (by (first | exact Or.inl rfl | exact Or.inr rfl)) (by (first | exact Or.inr rfl | exact Or.inl rfl)))) (fun _ _ _ _ _ => (pts_one (pt_mcmp (og_ne rm) (by first | rfl | exact nobehind _ (by decide) (by decide)) (pe_mV (i := 10) rfl (by (first | exact Or.inl rfl | exact Or.inr (Or.inl rfl) | exact Or.inr (Or.inr rfl))) (by decide) (by decide)) (pe_mV (i := 7) rfl (by (first | exact Or.inl rfl | exact Or.inr (Or.inl rfl) | exact Or.inr (Or.inr rfl))) (by decide) (by decide))))) (fun _ _ _ _ _ => (pe_mV (i := 10) rfl (by (first | exact Or.inl rfl | exact Or.inr (Or.inl rfl) | exact Or.inr (Or.inr rfl))) (by decide) (by decide))) (fun _ => rfl)) pa_mnil rfl) rfl) (by decide) rfl rfl) rfl (Or.inl rfl))
    (pss_mone (ps_mif (pt_w (pw_mor (pt_mcmp (og_eq rm) (by first | rfl | exact nobehind _ (by decide) (by decide)) (pe_mV (i := 8) rfl (by (first | exact Or.inl rfl | exact Or.inr (Or.inl rfl) | exact Or.inr (Or.inr rfl))) (by decide) (by decide)) (pe_mV (i := 1) rfl (by (first | exact Or.inl rfl | exact Or.inr (Or.inl rfl) | exact Or.inr (Or.inr rfl))) (by decide) (by decide))) (pw_mor (pt_mcmp og_is (by first | rfl | exact nobehind _ (by decide) (by decide)) (pe_mV (i := 8) rfl (by (first | exact Or.inl rfl | exact Or.inr (Or.inl rfl) | exact Or.inr (Or.inr rfl))) (by decide) (by decide)) pe_mnon) (pw_mor1 (pt_mcmp (og_inA rm) (by first | rfl | exact nobehind _ (by decide) (by decide)) (pe_mV (i := 7) rfl (by (first | exact Or.inl rfl | exact Or.inr (Or.inl rfl) | exact Or.inr (Or.inr rfl))) (by decide) (by decide)) (pe_mIxA rm (pe_mV (i := 8) rfl (by (first | exact Or.inl rfl | exact Or.inr (Or.inl rfl) | exact Or.inr (Or.inr rfl))) (by decide) (by decide)) pe_mint (fun _ _ => rfl))))))) (pss_mone (ps_mret pe_mbl)) pss_mnil))) (fun _ => rfl))
    (pss_mcons (ps_mset (i := 9) S_nd rfl (by (first | exact Or.inl rfl | exact Or.inr rfl)) (pe_mLst pa_mnil) rfl (Or.inl rfl))
    (pss_mcons (ps_mfor (passes_of rfl) rfl (pi_mRange1 rfl bt.range (pa_mcons (pe_mV (i := 3) rfl (by (first | exact Or.inl rfl | exact Or.inr (Or.inl rfl) | exact Or.inr (Or.inr rfl))) (by decide) (by decide)) pa_mnil rfl) rfl) (pg_mname (i := 10) S_nd rfl (by (first | exact Or.inl rfl | exact Or.inr rfl)) (by (first | exact Or.inr rfl | exact Or.inl rfl))) (pss_mone (ps_mexpr (pe_mExt (pe_mV (i := 9) rfl (by (first | exact Or.inl rfl | exact Or.inr (Or.inl rfl) | exact Or.inr (Or.inr rfl))) (by decide) (by decide)) (pe_mLc (n := 18) (own := [("other", 15)]) rfl S_nd (pi_mRange2 rfl bt.range (pa_mcons (pe_mbin og_add (pe_mV (i := 10) rfl (by (first | exact Or.inl rfl | exact Or.inr (Or.inl rfl) | exact Or.inr (Or.inr rfl))) (by decide) (by decide)) pe_mint) (pa_mcons (pe_mV (i := 3) rfl (by (first | exact Or.inl rfl | exact Or.inr (Or.inl rfl) | exact Or.inr (Or.inr rfl))) (by decide) (by decide)) pa_mnil rfl) rfl) rfl rfl) (blkOk_by (by kernel_rfl)) (fun _ _ _ _ _ => (pg_mname (i := 15) S_nd rfl (by (first | exact Or.inl rfl | exact Or.inr rfl)) (by (first | exact Or.inr rfl | exact Or.inl rfl)))) (fun _ _ _ _ _ => (pts_one (pt_mval (pe_mCall c__law_apart hr (by decide) hgd rfl rfl (pa_mcons (pe_mV (i := 1) rfl (by (first | exact Or.inl rfl | exact Or.inr (Or.inl rfl) | exact Or.inr (Or.inr rfl))) (by decide) (by decide)) (pa_mcons (pe_mV (i := 10) rfl (by (first | exact Or.inl rfl | exact Or.inr (Or.inl rfl) | exact Or.inr (Or.inr rfl))) (by decide) (by decide)) (pa_mcons (pe_mV (i := 15) rfl (by (first | exact Or.inl rfl | exact Or.inr (Or.inl rfl) | exact Or.inr (Or.inr rfl))) (by decide) (by decide)) pa_mnil rfl) rfl) rfl) (by decide) rfl rfl) (fun _ => rfl)))) (fun _ _ _ _ _ => (pe_mTup (pa_mcons (pe_mD (pe_mV (i := 10) rfl (by (first | exact Or.inl rfl | exact Or.inr (Or.inl rfl) | exact Or.inr (Or.inr rfl))) (by decide) (by decide))) (pa_mcons (pe_mD (pe_mV (i := 15) rfl (by (first | exact Or.inl rfl | exact Or.inr (Or.inl rfl) | exact Or.inr (Or.inr rfl))) (by decide) (by decide))) pa_mnil rfl) rfl))) (fun _ => rfl)) rfl rfl rfl rfl rfl) rfl)) (fun _ => rfl))
    (pss_mcons (ps_mif (pt_mcmp (og_ne rm) (by first | rfl | exact nobehind _ (by decide) (by decide)) (pe_mB (cg_reprD rm) rfl bt.repr (by decide +kernel) (pa_mcons (pe_mLst (pa_mcons (pe_mD (pe_mCall c_apart hr (by decide) hgd rfl rfl (pa_mcons (pe_mV (i := 1) rfl (by (first | exact Or.inl rfl | exact Or.inr (Or.inl rfl) | exact Or.inr (Or.inr rfl))) (by decide) (by decide)) pa_mnil rfl) (by decide) rfl rfl)) (pa_mcons (pe_mD (pe_mCallK0 k_apart_order hr (by decide) hgd rfl rfl rfl (pk_mcons (pe_mV (i := 1) rfl (by (first | exact Or.inl rfl | exact Or.inr (Or.inl rfl) | exact Or.inr (Or.inr rfl))) (by decide) (by decide)) pk_mnil) (by decide) rfl rfl rfl)) pa_mnil rfl) rfl)) pa_mnil rfl) (by decide) (by decide) rfl rfl) (pe_mB (cg_reprD rm) rfl bt.repr (by decide +kernel) (pa_mcons (pe_mbin og_mulA (pe_mLst (pa_mcons (pe_mD (pe_mTy cg_tuple rfl bt.tuple (by decide +kernel) (pa_mcons (pe_mV (i := 9) rfl (by (first | exact Or.inl rfl | exact Or.inr (Or.inl rfl) | exact Or.inr (Or.inr rfl))) (by decide) (by decide)) pa_mnil rfl) (by decide) (by decide) rfl rfl)) pa_mnil rfl)) pe_mint) pa_mnil rfl) (by decide) (by decide) rfl rfl)) (pss_mone (ps_mret pe_mbl)) pss_mnil)
    (pss_mcons (ps_mset (i := 11) S_nd rfl (by (first | exact Or.inl rfl | exact Or.inr rfl)) (pe_mCall c_turned_about hr (by decide) hgd rfl rfl (pa_mcons (pe_mV (i := 1) rfl (by (first | exact Or.inl rfl | exact Or.inr (Or.inl rfl) | exact Or.inr (Or.inr rfl))) (by decide) (by decide)) pa_mnil rfl) (by decide) rfl rfl) rfl (Or.inl rfl))
    (pss_mcons (ps_mfor (passes_of rfl) rfl (pi_mRange1 rfl bt.range (pa_mcons (pe_mV (i := 3) rfl (by (first | exact Or.inl rfl | exact Or.inr (Or.inl rfl) | exact Or.inr (Or.inr rfl))) (by decide) (by decide)) pa_mnil rfl) rfl) (pg_mname (i := 12) S_nd rfl (by (first | exact Or.inl rfl | exact Or.inr rfl)) (by (first | exact Or.inr rfl | exact Or.inl rfl))) (pss_mcons (ps_mset (i := 13) S_nd rfl (by (first | exact Or.inl rfl | exact Or.inr rfl)) (pe_mLst (pa_mcons (pe_mD (pe_mTy cg_tuple rfl bt.tuple (by decide +kernel) (pa_mcons (pe_mLc (n := 18) (own := [("a", 5)]) rfl S_nd (pi_mRange1 rfl bt.range (pa_mcons (pe_mV (i := 3) rfl (by (first | exact Or.inl rfl | exact Or.inr (Or.inl rfl) | exact Or.inr (Or.inr rfl))) (by decide) (by decide)) pa_mnil rfl) rfl) (blkOk_by (by kernel_rfl)) (fun _ _ _ _ _ => (pg_mname (i := 5) S_nd rfl (by (first | exact Or.inl rfl | exact Or.inr rfl)) (by (first | exact Or.inr rfl | exact Or.inl rfl)))) (fun _ _ _ _ _ => (pts_one (pt_mcmp (og_inA rm) (by first | rfl | exact nobehind _ (by decide) (by decide)) (pe_mTup (pa_mcons (pe_mD (pe_mV (i := 5) rfl (by (first | exact Or.inl rfl | exact Or.inr (Or.inl rfl) | exact Or.inr (Or.inr rfl))) (by decide) (by decide))) (pa_mcons (pe_mD (pe_mV (i := 12) rfl (by (first | exact Or.inl rfl | exact Or.inr (Or.inl rfl) | exact Or.inr (Or.inr rfl))) (by decide) (by decide))) pa_mnil rfl) rfl)) (pe_mIxA rm (pe_mV (i := 1) rfl (by (first | exact Or.inl rfl | exact Or.inr (Or.inl rfl) | exact Or.inr (Or.inr rfl))) (by decide) (by decide)) pe_mint (fun _ _ => rfl))))) (fun _ _ _ _ _ => (pe_mV (i := 5) rfl (by (first | exact Or.inl rfl | exact Or.inr (Or.inl rfl) | exact Or.inr (Or.inr rfl))) (by decide) (by decide))) (fun _ => rfl)) pa_mnil rfl) (by decide) (by decide) rfl rfl)) (pa_mcons (pe_mD (pe_mTy cg_tuple rfl bt.tuple (by decide +kernel) (pa_mcons (pe_mLc (n := 18) (own := [("b", 6)]) rfl S_nd (pi_mRange1 rfl bt.range (pa_mcons (pe_mV (i := 3) rfl (by (first | exact Or.inl rfl | exact Or.inr (Or.inl rfl) | exact Or.inr (Or.inr rfl))) (by decide) (by decide)) pa_mnil rfl) rfl) (blkOk_by (by kernel_rfl)) (fun _ _ _ _ _ => (pg_mname (i := 6) S_nd rfl (by (first | exact Or.inl rfl | exact Or.inr rfl)) (by (first | exact Or.inr rfl | exact Or.inl rfl)))) (fun _ _ _ _ _ => (pts_one (pt_mcmp (og_inA rm) (by first | rfl | exact nobehind _ (by decide) (by decide)) (pe_mTup (pa_mcons (pe_mD (pe_mV (i := 12) rfl (by (first | exact Or.inl rfl | exact Or.inr (Or.inl rfl) | exact Or.inr (Or.inr rfl))) (by decide) (by decide))) (pa_mcons (pe_mD (pe_mV (i := 6) rfl (by (first | exact Or.inl rfl | exact Or.inr (Or.inl rfl) | exact Or.inr (Or.inr rfl))) (by decide) (by decide))) pa_mnil rfl) rfl)) (pe_mIxA rm (pe_mV (i := 1) rfl (by (first | exact Or.inl rfl | exact Or.inr (Or.inl rfl) | exact Or.inr (Or.inr rfl))) (by decide) (by decide)) pe_mint (fun _ _ => rfl))))) (fun _ _ _ _ _ => (pe_mV (i := 6) rfl (by (first | exact Or.inl rfl | exact Or.inr (Or.inl rfl) | exact Or.inr (Or.inr rfl))) (by decide) (by decide))) (fun _ => rfl)) pa_mnil rfl) (by decide) (by decide) rfl rfl)) pa_mnil rfl) rfl)) rfl (Or.inl rfl))
    (pss_mcons (ps_mif (pt_w (pw_mor (pt_mcmp (og_ne rm) (by first | rfl | exact nobehind _ (by decide) (by decide)) (pe_mB (cg_reprD rm) rfl bt.repr (by decide +kernel) (pa_mcons (pe_mLst (pa_mcons (pe_mD (pe_mCall c_ahead hr (by decide) hgd rfl rfl (pa_mcons (pe_mV (i := 1) rfl (by (first | exact Or.inl rfl | exact Or.inr (Or.inl rfl) | exact Or.inr (Or.inr rfl))) (by decide) (by decide)) (pa_mcons (pe_mV (i := 12) rfl (by (first | exact Or.inl rfl | exact Or.inr (Or.inl rfl) | exact Or.inr (Or.inr rfl))) (by decide) (by decide)) pa_mnil rfl) rfl) (by decide) rfl rfl)) (pa_mcons (pe_mD (pe_mCall c_behind hr (by decide) hgd rfl rfl (pa_mcons (pe_mV (i := 1) rfl (by (first | exact Or.inl rfl | exact Or.inr (Or.inl rfl) | exact Or.inr (Or.inr rfl))) (by decide) (by decide)) (pa_mcons (pe_mV (i := 12) rfl (by (first | exact Or.inl rfl | exact Or.inr (Or.inl rfl) | exact Or.inr (Or.inr rfl))) (by decide) (by decide)) pa_mnil rfl) rfl) (by decide) rfl rfl)) pa_mnil rfl) rfl)) pa_mnil rfl) (by decide) (by decide) rfl rfl) (pe_mB (cg_reprD rm) rfl bt.repr (by decide +kernel) (pa_mcons (pe_mV (i := 13) rfl (by (first | exact Or.inl rfl | exact Or.inr (Or.inl rfl) | exact Or.inr (Or.inr rfl))) (by decide) (by decide)) pa_mnil rfl) (by decide) (by decide) rfl rfl)) (pw_mor1 (pt_mcmp (og_ne rm) (by first | rfl | exact nobehind _ (by decide) (by decide)) (pe_mLst (pa_mcons (pe_mD (pe_mCall c_behind hr (by decide) hgd rfl rfl (pa_mcons (pe_mV (i := 11) rfl (by (first | exact Or.inl rfl | exact Or.inr (Or.inl rfl) | exact Or.inr (Or.inr rfl))) (by decide) (by decide)) (pa_mcons (pe_mV (i := 12) rfl (by (first | exact Or.inl rfl | exact Or.inr (Or.inl rfl) | exact Or.inr (Or.inr rfl))) (by decide) (by decide)) pa_mnil rfl) rfl) (by decide) rfl rfl)) (pa_mcons (pe_mD (pe_mCall c_ahead hr (by decide) hgd rfl rfl (pa_mcons (pe_mV (i := 11) rfl (by (first | exact Or.inl rfl | exact Or.inr (Or.inl rfl) | exact Or.inr (Or.inr rfl))) (by decide) (by decide)) (pa_mcons (pe_mV (i := 12) rfl (by (first | exact Or.inl rfl | exact Or.inr (Or.inl rfl) | exact Or.inr (Or.inr rfl))) (by decide) (by decide)) pa_mnil rfl) rfl) (by decide) rfl rfl)) pa_mnil rfl) rfl)) (pe_mV (i := 13) rfl (by (first | exact Or.inl rfl | exact Or.inr (Or.inl rfl) | exact Or.inr (Or.inr rfl))) (by decide) (by decide)))))) (pss_mone (ps_mret pe_mbl)) pss_mnil)
    (pss_mone (ps_mif (pt_mcmp (og_ne rm) (by first | rfl | exact nobehind _ (by decide) (by decide)) (pe_mB (cg_reprD rm) rfl bt.repr (by decide +kernel) (pa_mcons (pe_mLst (pa_mcons (pe_mD (pe_mCallK0 k_ahead_runner_order hr (by decide) hgd rfl rfl rfl (pk_mcons (pe_mV (i := 12) rfl (by (first | exact Or.inl rfl | exact Or.inr (Or.inl rfl) | exact Or.inr (Or.inr rfl))) (by decide) (by decide)) (pk_mcons (pe_mV (i := 1) rfl (by (first | exact Or.inl rfl | exact Or.inr (Or.inl rfl) | exact Or.inr (Or.inr rfl))) (by decide) (by decide)) pk_mnil)) (by decide) rfl rfl rfl)) (pa_mcons (pe_mD (pe_mCallK0 k_behind_runner_order hr (by decide) hgd rfl rfl rfl (pk_mcons (pe_mV (i := 12) rfl (by (first | exact Or.inl rfl | exact Or.inr (Or.inl rfl) | exact Or.inr (Or.inr rfl))) (by decide) (by decide)) (pk_mcons (pe_mV (i := 1) rfl (by (first | exact Or.inl rfl | exact Or.inr (Or.inl rfl) | exact Or.inr (Or.inr rfl))) (by decide) (by decide)) pk_mnil)) (by decide) rfl rfl rfl)) pa_mnil rfl) rfl)) pa_mnil rfl) (by decide) (by decide) rfl rfl) (pe_mB (cg_reprD rm) rfl bt.repr (by decide +kernel) (pa_mcons (pe_mV (i := 13) rfl (by (first | exact Or.inl rfl | exact Or.inr (Or.inl rfl) | exact Or.inr (Or.inr rfl))) (by decide) (by decide)) pa_mnil rfl) (by decide) (by decide) rfl rfl)) (pss_mone (ps_mret pe_mbl)) pss_mnil)))) (fun _ => rfl))
    (pss_mcons (ps_mfor (passes_of rfl) rfl (pi_mRange1 rfl bt.range (pa_mcons (pe_mif (pt_mcmp (og_gt rm) (by first | rfl | exact nobehind _ (by decide) (by decide)) (pe_mV (i := 3) rfl (by (first | exact Or.inl rfl | exact Or.inr (Or.inl rfl) | exact Or.inr (Or.inr rfl))) (by decide) (by decide)) pe_mint) pe_mint pe_mint) pa_mnil rfl) rfl) (pg_mname (i := 14) S_nd rfl (by (first | exact Or.inl rfl | exact Or.inr rfl)) (by (first | exact Or.inr rfl | exact Or.inl rfl))) (pss_mcons (ps_mset (i := 10) S_nd rfl (by (first | exact Or.inl rfl | exact Or.inr rfl)) (pe_mCall c__law_draw hr (by decide) hgd rfl rfl (pa_mcons (pe_mV (i := 0) rfl (by (first | exact Or.inl rfl | exact Or.inr (Or.inl rfl) | exact Or.inr (Or.inr rfl))) (by decide) (by decide)) (pa_mcons (pe_mV (i := 3) rfl (by (first | exact Or.inl rfl | exact Or.inr (Or.inl rfl) | exact Or.inr (Or.inr rfl))) (by decide) (by decide)) pa_mnil rfl) rfl) (by decide) rfl rfl) rfl (Or.inl rfl))
    (pss_mcons (ps_mset (i := 15) S_nd rfl (by (first | exact Or.inl rfl | exact Or.inr rfl)) (pe_mTy cg_int rfl bt.int (by decide +kernel) (pa_mcons (pe_mbin og_mod (pe_mbin og_add (pe_mbin og_add (pe_mV (i := 10) rfl (by (first | exact Or.inl rfl | exact Or.inr (Or.inl rfl) | exact Or.inr (Or.inr rfl))) (by decide) (by decide)) pe_mint) (pe_mCall c__law_draw hr (by decide) hgd rfl rfl (pa_mcons (pe_mV (i := 0) rfl (by (first | exact Or.inl rfl | exact Or.inr (Or.inl rfl) | exact Or.inr (Or.inr rfl))) (by decide) (by decide)) (pa_mcons (pe_mbin og_sub (pe_mV (i := 3) rfl (by (first | exact Or.inl rfl | exact Or.inr (Or.inl rfl) | exact Or.inr (Or.inr rfl))) (by decide) (by decide)) pe_mint) pa_mnil rfl) rfl) (by decide) rfl rfl)) (pe_mV (i := 3) rfl (by (first | exact Or.inl rfl | exact Or.inr (Or.inl rfl) | exact Or.inr (Or.inr rfl))) (by decide) (by decide))) pa_mnil rfl) (by decide) (by decide) rfl rfl) rfl (Or.inl rfl))
    (pss_mcons (ps_mset (i := 8) S_nd rfl (by (first | exact Or.inl rfl | exact Or.inr rfl)) (pe_mLst (pa_mcons (pe_mD (pe_mCall c_with_report hr (by decide) hgd rfl rfl (pa_mcons (pe_mV (i := 1) rfl (by (first | exact Or.inl rfl | exact Or.inr (Or.inl rfl) | exact Or.inr (Or.inr rfl))) (by decide) (by decide)) (pa_mcons (pe_mTup (pa_mcons (pe_mD (pe_mV (i := 10) rfl (by (first | exact Or.inl rfl | exact Or.inr (Or.inl rfl) | exact Or.inr (Or.inr rfl))) (by decide) (by decide))) (pa_mcons (pe_mD (pe_mV (i := 15) rfl (by (first | exact Or.inl rfl | exact Or.inr (Or.inl rfl) | exact Or.inr (Or.inr rfl))) (by decide) (by decide))) pa_mnil rfl) rfl)) pa_mnil rfl) rfl) (by decide) rfl rfl)) (pa_mcons (pe_mD (pe_mCall c_with_report hr (by decide) hgd rfl rfl (pa_mcons (pe_mV (i := 1) rfl (by (first | exact Or.inl rfl | exact Or.inr (Or.inl rfl) | exact Or.inr (Or.inr rfl))) (by decide) (by decide)) (pa_mcons (pe_mTup (pa_mcons (pe_mD (pe_mV (i := 15) rfl (by (first | exact Or.inl rfl | exact Or.inr (Or.inl rfl) | exact Or.inr (Or.inr rfl))) (by decide) (by decide))) (pa_mcons (pe_mD (pe_mV (i := 10) rfl (by (first | exact Or.inl rfl | exact Or.inr (Or.inl rfl) | exact Or.inr (Or.inr rfl))) (by decide) (by decide))) pa_mnil rfl) rfl)) pa_mnil rfl) rfl) (by decide) rfl rfl)) pa_mnil rfl) rfl)) rfl (Or.inl rfl))
    (pss_mcons (ps_mif (pt_mcmp (og_ne rm) (by first | rfl | exact nobehind _ (by decide) (by decide)) (pe_mCall c__law_apart hr (by decide) hgd rfl rfl (pa_mcons (pe_mV (i := 1) rfl (by (first | exact Or.inl rfl | exact Or.inr (Or.inl rfl) | exact Or.inr (Or.inr rfl))) (by decide) (by decide)) (pa_mcons (pe_mV (i := 10) rfl (by (first | exact Or.inl rfl | exact Or.inr (Or.inl rfl) | exact Or.inr (Or.inr rfl))) (by decide) (by decide)) (pa_mcons (pe_mV (i := 15) rfl (by (first | exact Or.inl rfl | exact Or.inr (Or.inl rfl) | exact Or.inr (Or.inr rfl))) (by decide) (by decide)) pa_mnil rfl) rfl) rfl) (by decide) rfl rfl) (pe_mand (pe_mcmp (og_notInA rm) (by first | rfl | exact nobehind _ (by decide) (by decide)) pe_mnon (pe_mV (i := 8) rfl (by (first | exact Or.inl rfl | exact Or.inr (Or.inl rfl) | exact Or.inr (Or.inr rfl))) (by decide) (by decide))) (pe_mand (pe_mcmp (og_ne rm) (by first | rfl | exact nobehind _ (by decide) (by decide)) (pe_mIxA rm (pe_mV (i := 8) rfl (by (first | exact Or.inl rfl | exact Or.inr (Or.inl rfl) | exact Or.inr (Or.inr rfl))) (by decide) (by decide)) pe_mint (fun _ _ => rfl)) (pe_mIxA rm (pe_mV (i := 8) rfl (by (first | exact Or.inl rfl | exact Or.inr (Or.inl rfl) | exact Or.inr (Or.inr rfl))) (by decide) (by decide)) pe_mint (fun _ _ => rfl))) (pe_mone (pe_mcmp (og_notInA rm) (by first | rfl | exact nobehind _ (by decide) (by decide)) (pe_mV (i := 1) rfl (by (first | exact Or.inl rfl | exact Or.inr (Or.inl rfl) | exact Or.inr (Or.inr rfl))) (by decide) (by decide)) (pe_mV (i := 8) rfl (by (first | exact Or.inl rfl | exact Or.inr (Or.inl rfl) | exact Or.inr (Or.inr rfl))) (by decide) (by decide))))))) (pss_mone (ps_mret pe_mbl)) pss_mnil)
    (pss_mone (ps_mif (pt_mcmp (og_inA rm) (by first | rfl | exact nobehind _ (by decide) (by decide)) (pe_mTup (pa_mcons (pe_mD (pe_mV (i := 10) rfl (by (first | exact Or.inl rfl | exact Or.inr (Or.inl rfl) | exact Or.inr (Or.inr rfl))) (by decide) (by decide))) (pa_mcons (pe_mD (pe_mV (i := 15) rfl (by (first | exact Or.inl rfl | exact Or.inr (Or.inl rfl) | exact Or.inr (Or.inr rfl))) (by decide) (by decide))) pa_mnil rfl) rfl)) (pe_mIxA rm (pe_mV (i := 1) rfl (by (first | exact Or.inl rfl | exact Or.inr (Or.inl rfl) | exact Or.inr (Or.inr rfl))) (by decide) (by decide)) pe_mint (fun _ _ => rfl))) (pss_mcons (ps_mset (i := 16) S_nd rfl (by (first | exact Or.inl rfl | exact Or.inr rfl)) (pe_mCall c_why hr (by decide) hgd rfl rfl (pa_mcons (pe_mV (i := 3) rfl (by (first | exact Or.inl rfl | exact Or.inr (Or.inl rfl) | exact Or.inr (Or.inr rfl))) (by decide) (by decide)) (pa_mcons (pe_mV (i := 4) rfl (by (first | exact Or.inl rfl | exact Or.inr (Or.inl rfl) | exact Or.inr (Or.inr rfl))) (by decide) (by decide)) (pa_mcons (pe_mTup (pa_mcons (pe_mD (pe_mV (i := 10) rfl (by (first | exact Or.inl rfl | exact Or.inr (Or.inl rfl) | exact Or.inr (Or.inr rfl))) (by decide) (by decide))) (pa_mcons (pe_mD (pe_mV (i := 15) rfl (by (first | exact Or.inl rfl | exact Or.inr (Or.inl rfl) | exact Or.inr (Or.inr rfl))) (by decide) (by decide))) pa_mnil rfl) rfl)) pa_mnil rfl) rfl) rfl) (by decide) rfl rfl) rfl (Or.inl rfl))
    (pss_mone (ps_mif (pt_w (pw_mor (pt_mcmp (og_ne rm) (by first | rfl | exact nobehind _ (by decide) (by decide)) (pe_mV (i := 8) rfl (by (first | exact Or.inl rfl | exact Or.inr (Or.inl rfl) | exact Or.inr (Or.inr rfl))) (by decide) (by decide)) (pe_mLst (pa_mcons (pe_mD (pe_mV (i := 1) rfl (by (first | exact Or.inl rfl | exact Or.inr (Or.inl rfl) | exact Or.inr (Or.inr rfl))) (by decide) (by decide))) (pa_mcons pe_mnon pa_mnil rfl) rfl))) (pw_mor1 (pt_mcmp og_isNot (by first | rfl | exact nobehind _ (by decide) (by decide)) (pe_mCall c_is_why hr (by decide) hgd rfl rfl (pa_mcons (pe_mV (i := 3) rfl (by (first | exact Or.inl rfl | exact Or.inr (Or.inl rfl) | exact Or.inr (Or.inr rfl))) (by decide) (by decide)) (pa_mcons (pe_mV (i := 4) rfl (by (first | exact Or.inl rfl | exact Or.inr (Or.inl rfl) | exact Or.inr (Or.inr rfl))) (by decide) (by decide)) (pa_mcons (pe_mTup (pa_mcons (pe_mD (pe_mV (i := 10) rfl (by (first | exact Or.inl rfl | exact Or.inr (Or.inl rfl) | exact Or.inr (Or.inr rfl))) (by decide) (by decide))) (pa_mcons (pe_mD (pe_mV (i := 15) rfl (by (first | exact Or.inl rfl | exact Or.inr (Or.inl rfl) | exact Or.inr (Or.inr rfl))) (by decide) (by decide))) pa_mnil rfl) rfl)) (pa_mcons (pe_mV (i := 16) rfl (by (first | exact Or.inl rfl | exact Or.inr (Or.inl rfl) | exact Or.inr (Or.inr rfl))) (by decide) (by decide)) pa_mnil rfl) rfl) rfl) rfl) (by decide) rfl rfl) pe_mbl)))) (pss_mone (ps_mret pe_mbl)) pss_mnil))) pss_mnil)))))) (fun _ => rfl))
    (pss_mone (ps_mret (pe_mand (pe_mcmp og_is (by first | rfl | exact nobehind _ (by decide) (by decide)) (pe_mCall c_is_order hr (by decide) hgd rfl rfl (pa_mcons (pe_mV (i := 11) rfl (by (first | exact Or.inl rfl | exact Or.inr (Or.inl rfl) | exact Or.inr (Or.inr rfl))) (by decide) (by decide)) pa_mnil rfl) (by decide) rfl rfl) pe_mbl) (pe_mone (pe_mcmp (og_eq rm) (by first | rfl | exact nobehind _ (by decide) (by decide)) (pe_mB (cg_reprD rm) rfl bt.repr (by decide +kernel) (pa_mcons (pe_mV (i := 1) rfl (by (first | exact Or.inl rfl | exact Or.inr (Or.inl rfl) | exact Or.inr (Or.inr rfl))) (by decide) (by decide)) pa_mnil rfl) (by decide) (by decide) rfl rfl) (pe_mV (i := 2) rfl (by (first | exact Or.inl rfl | exact Or.inr (Or.inl rfl) | exact Or.inr (Or.inr rfl))) (by decide) (by decide))))))))))))))))))))
theorem cal__law_right (bt : Bt mg) (c__law_order : CalG P w K mg base 9 "_law_order" P__law_order F__law_order) (c_neighbours : CalG P w K mg base 13 "neighbours" P_neighbours F_neighbours) (c_order_of : CalG P w K mg base 13 "order_of" P_order_of F_order_of) (c__law_apart : CalG P w K mg base 8 "_law_apart" P__law_apart F__law_apart) (c_apart : CalG P w K mg base 13 "apart" P_apart F_apart) (c_turned_about : CalG P w K mg base 13 "turned_about" P_turned_about F_turned_about) (c_ahead : CalG P w K mg base 13 "ahead" P_ahead F_ahead) (c_behind : CalG P w K mg base 13 "behind" P_behind F_behind) (c__law_draw : CalG P w K mg base 8 "_law_draw" P__law_draw F__law_draw) (c_with_report : CalG P w K mg base 13 "with_report" P_with_report F_with_report) (c_why : CalG P w K mg base 13 "why" P_why F_why) (c_is_why : CalG P w K mg base 13 "is_why" P_is_why F_is_why) (c_is_order : CalG P w K mg base 12 "is_order" P_is_order F_is_order) (k_neighbours_order : CalK P w K mg base 13 "neighbours" 0 P_neighbours ["order"] [0] F_neighbours) (k_apart_order : CalK P w K mg base 13 "apart" 0 P_apart ["order"] [0] F_apart) (k_ahead_runner_order : CalK P w K mg base 13 "ahead" 0 P_ahead ["runner", "order"] [1, 0] F_ahead) (k_behind_runner_order : CalK P w K mg base 13 "behind" 0 P_behind ["runner", "order"] [1, 0] F_behind) {f : Addr} {fd : FuncData} (F : FunD K "_law_right" "_law_right" (defArgs s__law_right) (defBody s__law_right) (defScope s__law_right) [] [] f fd) (hm : mg "_law_right" = some (.ref f)) : CalG P w K mg base 14 "_law_right" P__law_right F__law_right :=
  ⟨f, fd, ok__law_right bt c__law_order c_neighbours c_order_of c__law_apart c_apart c_turned_about c_ahead c_behind c__law_draw c_with_report c_why c_is_why c_is_order k_neighbours_order k_apart_order k_ahead_runner_order k_behind_runner_order F, hm, F.kp, F.bindsN fun _ _ _ _ _ _ us hl => match us, hl with | [_], _ => rfl⟩
abbrev s_law : Stmt := top 50
def N_law : List Str := ["script", "k"]
def P_law : List Str := ["script"]
def law_c1 : M := mLc 2 (mRange rg1 [(mB gMax2 [(mK (.int 1)), (mB gMin2 [(mK (.int 3)), (mLen (mV 0))])])]) (gNm (outs 2 [1]) 1) mYes (mCall F__law_right [(mCall F__law_pot [(mV 0), (mV 1)])]) [1]
def m_law : MS := (mRet (mB gAll [(law_c1)]))
def F_law : Fn := runF 2 [0] m_law
theorem sc_law : FnScope N_law P_law (defScope s_law) := ⟨rfl, rfl, rfl, by decide +kernel, rfl, by decide +kernel, by decide +kernel⟩
theorem ok_law (bt : Bt mg) (c__law_right : CalG P w K mg base 14 "_law_right" P__law_right F__law_right) (c__law_pot : CalG P w K mg base 8 "_law_pot" P__law_pot F__law_pot) {f : Addr} {fd : FuncData} (F : FunD K "law" "law" (defArgs s_law) (defBody s_law) (defScope s_law) [] [] f fd) : FnG P w K mg base 15 f fd P_law (spF K 1 F_law) :=
  fnG_of F sc_law rfl fun cdv A fr s H E hr hgd =>
    have rm := rm_of hr hgd
    have S_nd := sc_law.nd
    (pss_mone (ps_mret (pe_mB (cg_all rfl) rfl bt.all (by decide +kernel) (pa_mcons (pe_mLc (n := 2) (own := [("k", 1)]) rfl S_nd (pi_mRange1 rfl bt.range (pa_mcons (pe_mB (cg_max2 rfl) rfl bt.max (by decide +kernel) (pa_mcons pe_mint (pa_mcons (pe_mB (cg_min2 rfl) rfl bt.min (by decide +kernel) (pa_mcons pe_mint (pa_mcons (pe_mLen rfl bt.len (pe_mV (i := 0) rfl (by (first | exact Or.inl rfl | exact Or.inr (Or.inl rfl) | exact Or.inr (Or.inr rfl))) (by decide) (by decide)) rfl rfl) pa_mnil rfl) rfl) (by decide) (by decide) rfl rfl) pa_mnil rfl) rfl) (by decide) (by decide) rfl rfl) pa_mnil rfl) rfl) (blkOk_by (by kernel_rfl)) (fun _ _ _ _ _ => (pg_mname (i := 1) S_nd rfl (by (first | exact Or.inl rfl | exact Or.inr rfl)) (by (first | exact Or.inr rfl | exact Or.inl rfl)))) (fun _ _ _ _ _ => pts_mnil) (fun _ _ _ _ _ => (pe_mCall c__law_right hr (by decide) hgd rfl rfl (pa_mcons (pe_mCall c__law_pot hr (by decide) hgd rfl rfl (pa_mcons (pe_mV (i := 0) rfl (by (first | exact Or.inl rfl | exact Or.inr (Or.inl rfl) | exact Or.inr (Or.inr rfl))) (by decide) (by decide)) (pa_mcons (pe_mV (i := 1) rfl (by (first | exact Or.inl rfl | exact Or.inr (Or.inl rfl) | exact Or.inr (Or.inr rfl))) (by decide) (by decide)) pa_mnil rfl) rfl) (by decide) rfl rfl) pa_mnil rfl) (by decide) rfl rfl)) (fun _ => rfl)) pa_mnil rfl) (by decide) (by decide) rfl rfl)))
theorem cal_law (bt : Bt mg) (c__law_right : CalG P w K mg base 14 "_law_right" P__law_right F__law_right) (c__law_pot : CalG P w K mg base 8 "_law_pot" P__law_pot F__law_pot) {f : Addr} {fd : FuncData} (F : FunD K "law" "law" (defArgs s_law) (defBody s_law) (defScope s_law) [] [] f fd) (hm : mg "law" = some (.ref f)) : CalG P w K mg base 15 "law" P_law F_law :=
  ⟨f, fd, ok_law bt c__law_right c__law_pot F, hm, F.kp, F.bindsN fun _ _ _ _ _ _ us hl => match us, hl with | [_], _ => rfl⟩
end
end My
set_option maxHeartbeats 4000000
namespace My
open PySem PySem.Spec PyProof.Rows L2 Mp RZ
theorem s_draw (a b m : Int) (ha : 0 ≤ a) (hb : 0 ≤ b ∧ b < 2147483648) (hm : 1 ≤ m ∧ m ≤ 1000) : ∃ d a' b', 0 ≤ d ∧ d < m ∧ 0 ≤ a' ∧ (0 ≤ b' ∧ b' < 2147483648) ∧
    F__law_draw [.own (.lst [.int a, .int b]), .d (.int m)] = .ok (.d (.int d), [.own (.lst [.int a', .int b']), .d (.int m)]) := by
  have hm0 : 0 < m := by omega
  have hm1 : m < 1073741824 := by omega
  by_cases h : 0 < a
  · refine ⟨a % m, a / m, b, ?_, ?_, ?_, hb, ?_⟩
    · exact Int.emod_nonneg _ (by omega)
    · exact Int.emod_lt_of_pos _ (by omega)
    · exact Int.ediv_nonneg ha (by omega)
    · unfold F__law_draw runF m__law_draw
      simp [ioOk, Vl.owned, startE, mSeq, mIfS, mOp2, mIxA, mV, lk, mK, ixR, sq, pk, Bx.ok, Bx.x, atI, ixN, ofSum, bo, Res.rs, mAsg, gTp, gs1, gs0, gSbA, stB, gNm, mD, fz, mB, mAs, pks, mRet, finF, resF, outsF, outI, gAdd, Mp.gSub, gMod, gDiv, gMulA, gInt, gDivmod, mSkip, mAnd, mOr, mNot, mBr, mIf, mExpr, gGt_int, gLt_int, gLe_int, gEq_int, gNe_int, Ot.bind, h, hm0, hm1]
  · have hbb : ∀ x : Int, 0 ≤ x → x < 2147483648 → bigI x = true := fun x h1 h2 => by
      unfold bigI
      simp only [decide_eq_true_eq]
      omega
    have e1 := Int.emod_nonneg (b * 40692 + 10613) (b := 2147483587) (by omega)
    have e2 := Int.emod_lt_of_pos (b * 40692 + 10613) (b := 2147483587) (by omega)
    refine ⟨(((b * 40692 + 10613) % 2147483587 * ((b * 40692 + 10613) % 2147483587)) % 2147483549 / 17) % m, a, (b * 40692 + 10613) % 2147483587, ?_, ?_, ha, ⟨e1, by omega⟩, ?_⟩
    · exact Int.emod_nonneg _ (by omega)
    · exact Int.emod_lt_of_pos _ (by omega)
    · unfold F__law_draw runF m__law_draw
      simp [ioOk, Vl.owned, startE, mSeq, mIfS, mOp2, mIxA, mV, lk, mK, ixR, sq, pk, Bx.ok, Bx.x, atI, ixN, ofSum, bo, Res.rs, mAsg, gTp, gs1, gs0, gSbA, stB, gNm, mD, fz, mB, mAs, pks, mRet, finF, resF, outsF, outI, gAdd, Mp.gSub, gMod, gDiv, gMulA, gInt, gDivmod, mSkip, mAnd, mOr, mNot, mBr, mIf, mExpr, gGt_int, gLt_int, gLe_int, gEq_int, gNe_int, Ot.bind, h, hm0, hm1, gMulI, hbb _ hb.1 hb.2, hbb _ e1 (by omega)]
theorem s_pot (ns : List Int) (k : Nat) (hk : k ≤ 2) : ∃ a b, PotOk a b ∧ F__law_pot [.scr (ns.map .int), .d (.int k)] = .ok (.new (.lst [.int a, .int b]), [.scr (ns.map .int), .d (.int k)]) := by
  have hb1 : bigI (k : Int) = true := big_small (by omega) (by omega)
  have hb2 : ∀ c : Int, bigI (c % 2147483549) = true := fun c => big_small (by have := Int.emod_nonneg c (b := 2147483549) (by omega); omega) (by have := Int.emod_lt_of_pos c (b := 2147483549) (by omega); omega)
  have hb3 : bigI 10 = true := big_small (by omega) (by omega)
  have hb4 : bigI 1801 = true := big_small (by omega) (by omega)
  have hb5 : bigI 7529 = true := big_small (by omega) (by omega)
  have go : ∀ c : Int, ∃ a b, PotOk a b ∧ a = (if c - 1000000000000000000 > 0 then c - 1000000000000000000 else 0) ∧ b = (c % 2147483549 * 40014 + 7529 * k + 1451) % 2147483563 + 1 := fun c =>
    ⟨_, _, ⟨by split <;> omega, pot_b _⟩, rfl, rfl⟩
  by_cases h : k < ns.length
  · have h' : (k : Int) < ns.length := by omega
    obtain ⟨a, b, hp, ea, eb⟩ := go (if ns[k] < 0 then -ns[k] else ns[k])
    refine ⟨a, b, hp, ?_⟩
    rw [ea, eb]
    unfold F__law_pot runF m__law_pot
    simp [ioOk, Vl.owned, startE, mSeq, mIfS, mOp2, mIxA, mV, lk, mK, ixR, sq, pk, Bx.ok, Bx.x, atI, ixN, ofSum, bo, Res.rs, mAsg, gTp, gs1, gs0, gSbA, stB, gNm, mD, fz, mB, mAs, pks, mRet, finF, resF, outsF, outI, gAdd, Mp.gSub, gMod, gDiv, gMulA, gInt, gDivmod, mSkip, mAnd, mOr, mNot, mBr, mIf, mExpr, gGt_int, gLt_int, gLe_int, gEq_int, gNe_int, Ot.bind, h, h', gMulI, hb1, hb2, hb3, hb4, hb5, mLen, lenR, mSet, asV, mTup, mLst, allD, gAbs, gPow, gMax2]
  · have h' : ¬ (k : Int) < ns.length := by omega
    obtain ⟨a, b, hp, ea, eb⟩ := go (1801 * k + 631)
    refine ⟨a, b, hp, ?_⟩
    rw [ea, eb]
    unfold F__law_pot runF m__law_pot
    simp [ioOk, Vl.owned, startE, mSeq, mIfS, mOp2, mIxA, mV, lk, mK, ixR, sq, pk, Bx.ok, Bx.x, atI, ixN, ofSum, bo, Res.rs, mAsg, gTp, gs1, gs0, gSbA, stB, gNm, mD, fz, mB, mAs, pks, mRet, finF, resF, outsF, outI, gAdd, Mp.gSub, gMod, gDiv, gMulA, gInt, gDivmod, mSkip, mAnd, mOr, mNot, mBr, mIf, mExpr, gGt_int, gLt_int, gLe_int, gEq_int, gNe_int, Ot.bind, h, h', gMulI, hb1, hb2, hb3, hb4, hb5, mLen, lenR, mSet, asV, mTup, mLst, allD, gAbs, gPow, gMax2]
theorem q_law (hR : ∀ a b, PotOk a b → ∃ outs, F__law_right [.own (.lst [.int a, .int b])] = .ok (.d (.bool true), outs)) (ns : List Int) : ∃ outs, F_law [.scr (ns.map .int)] = .ok (.d (.bool true), outs) := by
  obtain ⟨n, hn, en⟩ : ∃ n : Nat, n ≤ 3 ∧ mRange rg1 [(mB gMax2 [(mK (.int 1)), (mB gMin2 [(mK (.int 3)), (mLen (mV 0))])])] [some (Vl.scr (ns.map .int)), none] = .ok (intsD 0 n, [some (Vl.scr (ns.map .int)), none]) := by
    have hs : smI (if (if (ns.length : Int) < 3 then (ns.length : Int) else 3) > 1 then (if (ns.length : Int) < 3 then (ns.length : Int) else 3) else 1) = true := by
      unfold smI
      simp only [decide_eq_true_eq]
      split <;> (try split) <;> omega
    refine ⟨(if (if (ns.length : Int) < 3 then (ns.length : Int) else 3) > 1 then (if (ns.length : Int) < 3 then (ns.length : Int) else 3) else 1).toNat, ?_, ?_⟩
    · split <;> (try split) <;> omega
    · simp only [mRange, mAs, mB, mK, mLen, mV, lk, lenR, Ot.bind, pks, pk, gMax2, gMin2, Res.rs, allI, rg1, List.length_map]
      simp [hs]
  have hc : mLc 2 (mRange rg1 [(mB gMax2 [(mK (.int 1)), (mB gMin2 [(mK (.int 3)), (mLen (mV 0))])])]) (gNm (outs 2 [1]) 1) mYes (mCall F__law_right [(mCall F__law_pot [(mV 0), (mV 1)])]) [1] [some (Vl.scr (ns.map .int)), none] =
      .ok (.new (.lst (((intsD 0 n).filter fun _ => true).map fun _ => .bool true)), [some (Vl.scr (ns.map .int)), none]) := by
    refine mLc_pure en rfl (fun x hx => ?_) ?_
    · obtain ⟨k, rfl, hk⟩ := ints_mem hx
      refine ⟨[some (Vl.scr (ns.map .int)), some (.d (.int k))], rfl, rfl, rfl, rfl, fun _ => ?_⟩
      obtain ⟨a, b, hp, e⟩ := s_pot ns k (by omega)
      obtain ⟨outs, e2⟩ := hR a b hp
      have pe : putO [some (Vl.scr (ns.map .int)), some (.d (.int k))] [Rs.scr (ns.map .int), .d (.int k)] [.scr (ns.map .int), .d (.int k)] = [some (Vl.scr (ns.map .int)), some (.d (.int k))] := rfl
      simp only [mD, mCall, mAs, mV, lk, Ot.bind, argV, argV1, varsR, nodupN, e, pe, e2, fz]
      simp [e2, argV, argV1, varsR, nodupN, putO_new, fz, Bx.ok]
    · unfold intsD
      rw [List.length_map, List.length_range, sizeLine_eq]
      omega
  refine ⟨[.scr (ns.map .int)], ?_⟩
  unfold F_law runF m_law law_c1
  rw [List.filter_eq_self.mpr (fun _ _ => rfl)] at hc
  simp only [ioOk, Vl.owned, startE, mRet, mB, mAs]
  simp [hc, pks, pk, Bx.ok, Bx.x, all_true, Ot.bind, Res.rs, finF, resF, outsF, Vl.owned]
theorem q_closed {L : Int → Int → Prop} (s : StrictO L) (n : Nat) (hn : n ≤ 10) (ps : List (Int × Int)) (h : Gd n L ps) :
    F__law_closed [.d (.int n), .own (.lst (PL ps))] = .ok (.d (.tuple (PL (closeR n (srtP ps)))), [.d (.int n), .own (.lst (PL ps))]) := by
  have hs : smI (n : Int) = true := by unfold smI; simp only [decide_eq_true_eq]; omega
  have hi : intsD 0 (n : Int).toNat = intsD 0 n := by simp
  have len : (intsD 0 n).length = n := by unfold intsD; rw [List.length_map, List.length_range]
  -- the turns
  obtain ⟨ρ', e, P⟩ := forGo_inv (g := gNm [0, 1] 3) (b := (mSeq (mSet [0, 1] 4 (mLst []))
    (mSeq (mFor (mIt (mV 2)) (gTp 2 (gs1 (gNm [0, 1] 5) (gs1 (gNm [0, 1] 6) gs0))) (mExpr (mExt (mV 4) (mLc 9 (mIt (mV 2)) (gTp 2 (gs1 (gNm (outs 9 [7, 8]) 7) (gs1 (gNm (outs 9 [7, 8]) 8) gs0))) ((mAnd (mOp2 gEq (mV 6) (mV 7)) (mOp2 gNotInA (mTup [(mD (mV 5)), (mD (mV 8))]) (mV 2)))) (mTup [(mD (mV 5)), (mD (mV 8))]) [7, 8]))))
    (mSet [0, 1] 2 (mSSA (mOp2 gAdd (mV 2) (mV 4)))))))
    (fun i ρ => ∃ y3 y4 y5 y6, ρ = [some (.d (.int n)), some (.own (.lst (PL ps))), some (.own (.lst (PL (closeR i (srtP ps))))), y3, y4, y5, y6, none, none]) (intsD 0 n) 0
    [some (.d (.int n)), some (.own (.lst (PL ps))), some (.own (.lst (PL (srtP ps)))), none, none, none, none, none, none] ⟨_, _, _, _, rfl⟩ fun i x ρ hx hp => by
      obtain ⟨y3, y4, y5, y6, rfl⟩ := hp
      have hc := close_gd s (srt_gd h) (0 + i)
      obtain ⟨z5, z6, e⟩ := q_turn (closeR (0 + i) (srtP ps)) (by have := close_len hn s h (0 + i); omega) (some (.d (.int n))) (some (.own (.lst (PL ps)))) (some (.d x)) y5 y6 none none
      refine ⟨[some (.d (.int n)), some (.own (.lst (PL ps))), some (.own (.lst (PL (stepR (closeR (0 + i) (srtP ps)))))), some (.d x), some (.own (.lst (PL (moreR (closeR (0 + i) (srtP ps)) (closeR (0 + i) (srtP ps)))))), z5, z6, none, none], .next, ?_, .inl rfl, ⟨_, _, _, _, rfl⟩⟩
      rw [show gNm [0, 1] 3 x [some (.d (.int n)), some (.own (.lst (PL ps))), some (.own (.lst (PL (closeR (0 + i) (srtP ps))))), y3, y4, y5, y6, none, none] = .ok [some (.d (.int n)), some (.own (.lst (PL ps))), some (.own (.lst (PL (closeR (0 + i) (srtP ps))))), some (.d x), y4, y5, y6, none, none] from rfl]
      simp only [bind_ok]
      rw [mSeq]
      rw [show mSet [0, 1] 4 (mLst []) [some (.d (.int n)), some (.own (.lst (PL ps))), some (.own (.lst (PL (closeR (0 + i) (srtP ps))))), some (.d x), y4, y5, y6, none, none] = .ok (.next, [some (.d (.int n)), some (.own (.lst (PL ps))), some (.own (.lst (PL (closeR (0 + i) (srtP ps))))), some (.d x), some (.own (.lst [])), y5, y6, none, none]) from rfl]
      simp only [bind_ok]
      rw [mSeq, e]
      simp only [bind_ok]
      unfold mSet
      have hadd : mOp2 gAdd (mV 2) (mV 4) [some (.d (.int n)), some (.own (.lst (PL ps))), some (.d (.list (PL (closeR (0 + i) (srtP ps))))), some (.d x), some (.own (.lst (PL (moreR (closeR (0 + i) (srtP ps)) (closeR (0 + i) (srtP ps)))))), z5, z6, none, none] =
          .ok (.new (.lst (PL (closeR (0 + i) (srtP ps) ++ moreR (closeR (0 + i) (srtP ps)) (closeR (0 + i) (srtP ps))))), [some (.d (.int n)), some (.own (.lst (PL ps))), some (.d (.list (PL (closeR (0 + i) (srtP ps))))), some (.d x), some (.own (.lst (PL (moreR (closeR (0 + i) (srtP ps)) (closeR (0 + i) (srtP ps)))))), z5, z6, none, none]) := by
        have hl : (PL (closeR (0 + i) (srtP ps))).length + (PL (moreR (closeR (0 + i) (srtP ps)) (closeR (0 + i) (srtP ps)))).length ≤ sizeLine := by
          unfold PL
          rw [List.length_map, List.length_map]
          have h1 := moreR_len (closeR (0 + i) (srtP ps)) (closeR (0 + i) (srtP ps))
          have h2 := close_len hn s h (0 + i)
          have h4 : (closeR (0 + i) (srtP ps)).length * (closeR (0 + i) (srtP ps)).length ≤ 45 * 45 := Nat.mul_le_mul h2 h2
          rw [sizeLine_eq]
          omega
        simp only [mOp2, mV, lk, bind_ok, pk, Bx.ok, Bx.x, if_true, gAdd]
        rw [if_pos hl, PL_app]
        rfl
      rw [mSSA_ok (mSS_own hn s hadd (by simp [pk, Bx.ok, Bx.x]) (app_gd hc (more_gd s hc)))]
      rfl
  obtain ⟨y3, y4, y5, y6, eρ⟩ := P
  unfold F__law_closed runF m__law_closed _law_closed_l2 _law_closed_b2 _law_closed_l1 _law_closed_b1 _law_closed_c1
  have e0 : mSet [0, 1] 2 (mSSA (mV 1)) [some (.d (.int n)), some (.own (.lst (PL ps))), none, none, none, none, none, none, none] = .ok (.next, [some (.d (.int n)), some (.own (.lst (PL ps))), some (.own (.lst (PL (srtP ps)))), none, none, none, none, none, none]) := by
    unfold mSet
    rw [mSSA_ok (mSS_own hn s (ps := ps) (r := .var 1) (by rfl) (by simp [pk, lk, Bx.ok, Bx.x]) h)]
    rfl
  have e1 : mRange rg1 [mV 0] [some (.d (.int n)), some (.own (.lst (PL ps))), some (.own (.lst (PL (srtP ps)))), none, none, none, none, none, none] = .ok (intsD 0 n, [some (.d (.int n)), some (.own (.lst (PL ps))), some (.own (.lst (PL (srtP ps)))), none, none, none, none, none, none]) := by
    simp [mRange, mAs, mV, lk, Ot.bind, allI, rg1, hs]
  have es : startE 9 [.d (.int n), .own (.lst (PL ps))] = [some (.d (.int n)), some (.own (.lst (PL ps))), none, none, none, none, none, none, none] := rfl
  rw [es]
  rw [if_pos (by simp [ioOk, Vl.owned])]
  rw [mSeq, e0]
  simp only [bind_ok]
  rw [mSeq, mFor, e1]
  simp only [bind_ok]
  rw [e, eρ]
  simp only [bind_ok]
  rw [Nat.zero_add, len]
  simp [mRet, mB, mAs, mV, lk, pks, pk, Bx.ok, Bx.x, gTuple, Res.rs, Ot.bind, finF, resF, outsF, Vl.owned, outI]
/-- a draw's step in place -/
theorem q_drawM (i j : Nat) (ρ : Mp.Env) (a b m : Int) (hp : PotOk a b) (hm : 1 ≤ m ∧ m ≤ 1000) (h1 : lk ρ i = PotV a b) (mm : M) (h2 : mm ρ = .ok (.d (.int m), ρ)) :
    ∃ d a' b', 0 ≤ d ∧ d < m ∧ PotOk a' b' ∧ mCall F__law_draw [mV i, mm] ρ = .ok (.d (.int d), ρ.set i (PotV a' b')) := by
  obtain ⟨d, a', b', h3, h4, h5, h6, e⟩ := s_draw a b m hp.1 hp.2 hm
  refine ⟨d, a', b', h3, h4, ⟨h5, h6⟩, ?_⟩
  have e1 : mV i ρ = .ok (.var i, ρ) := by
    unfold mV
    rw [h1]
    rfl
  unfold mCall
  simp only [mAs, e1, h2, bind_ok, argV, argV1, h1, PotV, varsR, nodupN, List.contains_nil, Bool.not_false, Bool.and_self, if_true]
  rw [e]
  rfl
theorem q_pop (ps qs : List Int) (hne : ps ≠ []) (hz : ps.length ≤ 100) (a b : Int) (hp : PotOk a b) (v1 v4 : Option Vl) (hq : qs.length ≤ 100) : ∃ k a' b', ∃ hk : k < ps.length, PotOk a' b' ∧
    mExpr (mOwn fAppend (mV 3) [(mD (mOwn fPopAt (mV 2) [(mD (mCall F__law_draw [(mV 0), (mLen (mV 2))]))]))]) [PotV a b, v1, some (.own (.lst (IL ps))), some (.own (.lst (IL qs))), v4] =
      .ok (.next, [PotV a' b', v1, some (.own (.lst (IL (ps.eraseIdx k)))), some (.own (.lst (IL (qs ++ [ps[k]])))), v4]) := by
  have hlen : 0 < ps.length := List.length_pos_iff.mpr hne
  have il : (IL ps).length = ps.length := by unfold IL; rw [List.length_map]
  have e2 : mLen (mV 2) [PotV a b, v1, some (.own (.lst (IL ps))), some (.own (.lst (IL qs))), v4] = .ok (.d (.int ps.length), [PotV a b, v1, some (.own (.lst (IL ps))), some (.own (.lst (IL qs))), v4]) := by
    simp [mLen, mV, lk, lenR, pk, Bx.ok, Bx.x, Ot.bind, il]
  obtain ⟨d, a', b', h3, h4, hp', e⟩ := q_drawM 0 0 [PotV a b, v1, some (.own (.lst (IL ps))), some (.own (.lst (IL qs))), v4] a b ps.length hp ⟨by omega, by omega⟩ rfl _ e2
  obtain ⟨k, rfl⟩ : ∃ k : Nat, d = k := ⟨d.toNat, by omega⟩
  have hk : k < ps.length := by omega
  refine ⟨k, a', b', hk, hp', ?_⟩
  have e3 : mD (mCall F__law_draw [(mV 0), (mLen (mV 2))]) [PotV a b, v1, some (.own (.lst (IL ps))), some (.own (.lst (IL qs))), v4] = .ok (.d (.int k), [PotV a' b', v1, some (.own (.lst (IL ps))), some (.own (.lst (IL qs))), v4]) := by
    unfold mD
    rw [e]
    rfl
  have hs : smI (k : Int) = true := by unfold smI; simp only [decide_eq_true_eq]; omega
  have f1 : fPopAt (IL ps) [.int k] = some (.int ps[k], IL (ps.eraseIdx k)) := by
    unfold fPopAt
    simp only [hs, if_true, il, seqIx hk, IL_get hk, IL_erase]
  have e4 : mD (mOwn fPopAt (mV 2) [(mD (mCall F__law_draw [(mV 0), (mLen (mV 2))]))]) [PotV a b, v1, some (.own (.lst (IL ps))), some (.own (.lst (IL qs))), v4] = .ok (.d (.int ps[k]), [PotV a' b', v1, some (.own (.lst (IL (ps.eraseIdx k)))), some (.own (.lst (IL qs))), v4]) := by
    unfold mD mOwn
    simp only [mV, lk, bind_ok, ownL, mAs]
    have e3' := e3
    unfold mD at e3'
    rw [e3']
    simp only [bind_ok, allD, lk, f1]
    rfl
  have f2 : fAppend (IL qs) [.int ps[k]] = some (.none, IL (qs ++ [ps[k]])) := by
    unfold fAppend
    have : (IL qs).length < sizeLine := by unfold IL; rw [List.length_map, sizeLine_eq]; omega
    simp only [this, if_true]
    unfold IL
    rw [List.map_append]
    rfl
  generalize mD (mOwn fPopAt (mV 2) [(mD (mCall F__law_draw [(mV 0), (mLen (mV 2))]))]) = X at e4 ⊢
  unfold mExpr mOwn
  simp only [mV, lk, bind_ok, ownL, mAs, e4, allD, f2]
  rfl
/-- the drawn place popped from one list and put behind another, whatever the places of the names -/
theorem q_popG (ρ : Mp.Env) (i j k : Nat) (hij : i ≠ j) (hik : i ≠ k) (hjk : j ≠ k) (ps qs : List Int) (hne : ps ≠ []) (hz : ps.length ≤ 100) (a b : Int) (hp : PotOk a b) (hq : qs.length ≤ 100)
    (l1 : lk ρ i = PotV a b) (l2 : lk ρ j = some (.own (.lst (IL ps)))) (l3 : lk ρ k = some (.own (.lst (IL qs)))) : ∃ t a' b', ∃ ht : t < ps.length, PotOk a' b' ∧
    mExpr (mOwn fAppend (mV k) [(mD (mOwn fPopAt (mV j) [(mD (mCall F__law_draw [(mV i), (mLen (mV j))]))]))]) ρ =
      .ok (.next, ((ρ.set i (PotV a' b')).set j (some (.own (.lst (IL (ps.eraseIdx t)))))).set k (some (.own (.lst (IL (qs ++ [ps[t]])))))) := by
  have hlen : 0 < ps.length := List.length_pos_iff.mpr hne
  have il : (IL ps).length = ps.length := by unfold IL; rw [List.length_map]
  have v2 : mV j ρ = .ok (.var j, ρ) := by unfold mV; rw [l2]
  have v3 : mV k ρ = .ok (.var k, ρ) := by unfold mV; rw [l3]
  have e2 : mLen (mV j) ρ = .ok (.d (.int ps.length), ρ) := by
    unfold mLen
    rw [v2]
    simp [l2, lenR, pk, Bx.ok, Bx.x, Ot.bind, il]
  obtain ⟨d, a', b', h3, h4, hp', e⟩ := q_drawM i 0 ρ a b ps.length hp ⟨by omega, by omega⟩ l1 _ e2
  obtain ⟨t, rfl⟩ : ∃ t : Nat, d = t := ⟨d.toNat, by omega⟩
  have ht : t < ps.length := by omega
  refine ⟨t, a', b', ht, hp', ?_⟩
  have hs : smI (t : Int) = true := by unfold smI; simp only [decide_eq_true_eq]; omega
  have f1 : fPopAt (IL ps) [.int t] = some (.int ps[t], IL (ps.eraseIdx t)) := by
    unfold fPopAt
    simp only [hs, if_true, il, seqIx ht, IL_get ht, IL_erase]
  have e3 : mD (mCall F__law_draw [(mV i), (mLen (mV j))]) ρ = .ok (.d (.int t), ρ.set i (PotV a' b')) := by
    unfold mD
    rw [e]
    rfl
  have g2 : lk (ρ.set i (PotV a' b')) j = some (.own (.lst (IL ps))) := by rw [lk_set_ne hij, l2]
  have e4 : mD (mOwn fPopAt (mV j) [(mD (mCall F__law_draw [(mV i), (mLen (mV j))]))]) ρ = .ok (.d (.int ps[t]), (ρ.set i (PotV a' b')).set j (some (.own (.lst (IL (ps.eraseIdx t)))))) := by
    generalize mD (mCall F__law_draw [(mV i), (mLen (mV j))]) = X at e3 ⊢
    unfold mD mOwn
    simp only [v2, bind_ok, ownL, l2, mAs, e3, allD, g2, f1]
    rfl
  have f2 : fAppend (IL qs) [.int ps[t]] = some (.none, IL (qs ++ [ps[t]])) := by
    unfold fAppend
    have : (IL qs).length < sizeLine := by unfold IL; rw [List.length_map, sizeLine_eq]; omega
    simp only [this, if_true]
    unfold IL
    rw [List.map_append]
    rfl
  have g3 : lk ((ρ.set i (PotV a' b')).set j (some (.own (.lst (IL (ps.eraseIdx t)))))) k = some (.own (.lst (IL qs))) := by rw [lk_set_ne hjk, lk_set_ne hik, l3]
  generalize mD (mOwn fPopAt (mV j) [(mD (mCall F__law_draw [(mV i), (mLen (mV j))]))]) = X at e4 ⊢
  unfold mExpr mOwn
  simp only [v3, bind_ok, ownL, l3, mAs, e4, allD, g3, f2]
/-- drawing the places one by one: what comes out is the same places in another order -/
theorem q_draws (F : Nat) (base : List Int) (hb : base.length ≤ 100) (hF : base.length < F) (v1 v2 v5 v6 v7 v8 v9 v10 v11 v12 v13 : Option Vl) (a b : Int) (hp : PotOk a b) :
    ∃ a' b' names, PotOk a' b' ∧ names.Perm base ∧
    mWhile (mOp2 gNe (mV 3) (mLst [])) (mExpr (mOwn fAppend (mV 4) [(mD (mOwn fPopAt (mV 3) [(mD (mCall F__law_draw [(mV 0), (mLen (mV 3))]))]))])) F
      [PotV a b, v1, v2, some (.own (.lst (IL base))), some (.own (.lst (IL []))), v5, v6, v7, v8, v9, v10, v11, v12, v13] =
      .ok (.next, [PotV a' b', v1, v2, some (.own (.lst (IL []))), some (.own (.lst (IL names))), v5, v6, v7, v8, v9, v10, v11, v12, v13]) := by
  have T : ∀ (ps qs : List Int) (a b : Int), mOp2 gNe (mV 3) (mLst []) [PotV a b, v1, v2, some (.own (.lst (IL ps))), some (.own (.lst (IL qs))), v5, v6, v7, v8, v9, v10, v11, v12, v13] = .ok (.d (.bool (!ps.isEmpty)), [PotV a b, v1, v2, some (.own (.lst (IL ps))), some (.own (.lst (IL qs))), v5, v6, v7, v8, v9, v10, v11, v12, v13]) := by
    intro ps qs a b
    have := gNe_nil ps
    simp [mOp2, mV, lk, mLst, mAs, allD, pk, Bx.ok, Bx.x, Ot.bind, this, Res.rs]
  obtain ⟨ρ', e, a', b', qs, hp', hq, rfl⟩ := whGo_inv (c := mOp2 gNe (mV 3) (mLst [])) (b := mExpr (mOwn fAppend (mV 4) [(mD (mOwn fPopAt (mV 3) [(mD (mCall F__law_draw [(mV 0), (mLen (mV 3))]))]))]))
    (P := fun k ρ => ∃ a b ps qs, PotOk a b ∧ ps.length = k ∧ (qs ++ ps).Perm base ∧ ρ = [PotV a b, v1, v2, some (.own (.lst (IL ps))), some (.own (.lst (IL qs))), v5, v6, v7, v8, v9, v10, v11, v12, v13])
    (Z := fun ρ => ∃ a b qs, PotOk a b ∧ qs.Perm base ∧ ρ = [PotV a b, v1, v2, some (.own (.lst (IL []))), some (.own (.lst (IL qs))), v5, v6, v7, v8, v9, v10, v11, v12, v13])
    (fun ρ ⟨a, b, ps, qs, hp, hl, hq, e⟩ => by
      obtain rfl : ps = [] := List.length_eq_zero_iff.mp hl
      subst e
      exact ⟨_, T [] qs a b, a, b, qs, hp, by simpa using hq, rfl⟩)
    (fun k ρ ⟨a, b, ps, qs, hp, hl, hq, e⟩ => by
      subst e
      have hne : ps ≠ [] := by intro h; subst h; simp at hl
      have hL := hq.length_eq
      rw [List.length_append] at hL
      obtain ⟨t, a', b', ht, hp', e2⟩ := q_popG [PotV a b, v1, v2, some (.own (.lst (IL ps))), some (.own (.lst (IL qs))), v5, v6, v7, v8, v9, v10, v11, v12, v13] 0 3 4 (by decide) (by decide) (by decide) ps qs hne (by omega) a b hp (by omega) rfl rfl rfl
      have e1 := T ps qs a b
      have : ps.isEmpty = false := by cases ps <;> simp_all
      rw [this] at e1
      refine ⟨_, _, .next, e1, e2, .inl rfl, a', b', ps.eraseIdx t, qs ++ [ps[t]], hp', by rw [List.length_eraseIdx_of_lt ht]; omega, ?_, rfl⟩
      rw [List.append_assoc]
      refine List.Perm.trans (List.Perm.append_left qs ?_) hq
      exact er_perm ps t ht)
    base.length F _ hF ⟨a, b, base, [], hp, rfl, by simp, rfl⟩
  exact ⟨a', b', qs, hp', hq, e⟩
theorem q_begins (ns : List Int) (hz : ns.length ≤ 100) (v1 v2 v3 v5 v6 v7 v8 v9 v10 v11 v13 : Option Vl) (a b : Int) (hp : PotOk a b) :
    ∃ a' b' bs, PotOk a' b' ∧ bs.length = ns.length ∧ (∀ x ∈ bs, 0 ≤ x ∧ x < 6) ∧
    mLc 14 (mIt (mV 4)) (gNm (outs 14 [12]) 12) mYes (mCall F__law_draw [(mV 0), (mK (.int 6))]) [12] [PotV a b, v1, v2, v3, some (.own (.lst (IL ns))), v5, v6, v7, v8, v9, v10, v11, none, v13] =
      .ok (.new (.lst (IL bs)), [PotV a' b', v1, v2, v3, some (.d (.list (IL ns))), v5, v6, v7, v8, v9, v10, v11, none, v13]) := by
  obtain ⟨ys, A', e, ⟨a', b', hp', rfl⟩, hl, hR⟩ := lcGo_inv (n := 14) (g := gNm (outs 14 [12]) 12) (tt := mYes) (te := mCall F__law_draw [(mV 0), (mK (.int 6))]) (vs := [12])
    (P := fun A => ∃ a b, PotOk a b ∧ A = [PotV a b, v1, v2, v3, some (.d (.list (IL ns))), v5, v6, v7, v8, v9, v10, v11, none, v13])
    (R := fun _ y => ∃ v : Int, y = .int v ∧ 0 ≤ v ∧ v < 6) (IL ns) [] [PotV a b, v1, v2, v3, some (.d (.list (IL ns))), v5, v6, v7, v8, v9, v10, v11, none, v13] ⟨a, b, hp, rfl⟩
    (fun x hx A ⟨a, b, hp, e⟩ => by
      subst e
      obtain ⟨d, a', b', h3, h4, hp', e⟩ := q_drawM 0 0 [PotV a b, v1, v2, v3, some (.d (.list (IL ns))), v5, v6, v7, v8, v9, v10, v11, some (.d x), v13] a b 6 hp (by omega) rfl (mK (.int 6)) rfl
      refine ⟨[PotV a b, v1, v2, v3, some (.d (.list (IL ns))), v5, v6, v7, v8, v9, v10, v11, some (.d x), v13], [PotV a' b', v1, v2, v3, some (.d (.list (IL ns))), v5, v6, v7, v8, v9, v10, v11, some (.d x), v13], .int d, rfl, rfl, rfl, ?_, ⟨a', b', hp', rfl⟩, d, rfl, h3, h4⟩
      unfold mD
      rw [e]
      rfl)
    (by unfold IL; rw [List.length_map, sizeLine_eq]; simp; omega)
  have il : (IL ns).length = ns.length := by unfold IL; rw [List.length_map]
  have : ∀ ys : List D, (∀ y ∈ ys, ∃ v : Int, y = .int v ∧ 0 ≤ v ∧ v < 6) → ∃ bs : List Int, ys = IL bs ∧ ∀ x ∈ bs, 0 ≤ x ∧ x < 6 := by
    intro ys
    induction ys with
    | nil => exact fun _ => ⟨[], rfl, fun x hx => by cases hx⟩
    | cons y ys ih =>
      intro h
      obtain ⟨v, rfl, h1, h2⟩ := h y List.mem_cons_self
      obtain ⟨bs, rfl, h3⟩ := ih fun z hz => h z (List.mem_cons_of_mem _ hz)
      refine ⟨v :: bs, rfl, fun x hx => ?_⟩
      rcases List.mem_cons.mp hx with rfl | hx
      · exact ⟨h1, h2⟩
      · exact h3 x hx
  obtain ⟨bs, rfl, hb⟩ := this ys fun y hy => by
    obtain ⟨i, hi, e⟩ := List.getElem_of_mem hy
    exact hR i ((IL ns)[i]'(by omega)) y (List.getElem?_eq_getElem _) (by rw [List.getElem?_eq_getElem hi, e])
  refine ⟨a', b', bs, hp', by rw [← il, ← hl]; unfold IL; rw [List.length_map], hb, ?_⟩
  have hi : mIt (mV 4) [PotV a b, v1, v2, v3, some (.own (.lst (IL ns))), v5, v6, v7, v8, v9, v10, v11, none, v13] = .ok (IL ns, [PotV a b, v1, v2, v3, some (.d (.list (IL ns))), v5, v6, v7, v8, v9, v10, v11, none, v13]) := by
    have : (Bx.lst (IL ns)).ok = true := rfl
    simp [ioOk, Vl.owned, startE, mSeq, mIfS, mOp2, mIxA, mV, lk, mK, ixR, sq, pk, Bx.ok, Bx.x, atI, ixN, ofSum, bo, Res.rs, mAsg, gTp, gs1, gs0, gSbA, stB, gNm, mD, fz, mB, mAs, pks, mRet, finF, resF, outsF, outI, gAdd, Mp.gSub, gMod, gDiv, gMulA, gInt, gDivmod, mSkip, mAnd, mOr, mNot, mBr, mIf, mExpr, gGt_int, gLt_int, gLe_int, gEq_int, gNe_int, Ot.bind, mIt, seqD, this]
  unfold mLc
  rw [hi]
  simp only [bind_ok]
  rw [if_pos (by rfl)]
  show ((lcGo 14 _ _ _ [12] (IL ns) [PotV a b, v1, v2, v3, some (.d (.list (IL ns))), v5, v6, v7, v8, v9, v10, v11, none, v13] []).nx.bind _) = _
  rw [e]
  rfl
/-- the ends: each not before its begin -/
theorem q_endsGo (bs : List Int) (hz : bs.length ≤ 100) (v1 v2 v3 v4 v5 v6 v7 v9 v10 v11 v12 : Option Vl) (a b : Int) (hp : PotOk a b) (hs : ∀ x ∈ bs, 0 ≤ x ∧ x < 6) :
    ∃ a' b' es, PotOk a' b' ∧ es.length = bs.length ∧ (∀ (i : Nat) x y, bs[i]? = some x → es[i]? = some y → x ≤ y ∧ y < 10) ∧
    lcGo 14 (gNm (outs 14 [13]) 13) mYes (mOp2 gAdd (mV 13) (mCall F__law_draw [(mV 0), (mK (.int 4))])) [13] (IL bs) [PotV a b, v1, v2, v3, v4, v5, v6, v7, some (.d (.list (IL bs))), v9, v10, v11, v12, none] [] =
      .ok (IL es, [PotV a' b', v1, v2, v3, v4, v5, v6, v7, some (.d (.list (IL bs))), v9, v10, v11, v12, none]) := by
  obtain ⟨ys, A', e, ⟨a', b', hp', rfl⟩, hl, hR⟩ := lcGo_inv (n := 14) (g := gNm (outs 14 [13]) 13) (tt := mYes) (te := mOp2 gAdd (mV 13) (mCall F__law_draw [(mV 0), (mK (.int 4))])) (vs := [13])
    (P := fun A => ∃ a b, PotOk a b ∧ A = [PotV a b, v1, v2, v3, v4, v5, v6, v7, some (.d (.list (IL bs))), v9, v10, v11, v12, none])
    (R := fun x y => ∃ u v : Int, x = .int u ∧ y = .int v ∧ u ≤ v ∧ v < 10) (IL bs) [] [PotV a b, v1, v2, v3, v4, v5, v6, v7, some (.d (.list (IL bs))), v9, v10, v11, v12, none] ⟨a, b, hp, rfl⟩
    (fun x hx A ⟨a, b, hp, e⟩ => by
      subst e
      obtain ⟨u, hu, rfl⟩ := List.mem_map.mp hx
      have := hs u hu
      obtain ⟨d, a', b', h3, h4, hp', e⟩ := q_drawM 0 0 [PotV a b, v1, v2, v3, v4, v5, v6, v7, some (.d (.list (IL bs))), v9, v10, v11, v12, some (.d (.int u))] a b 4 hp (by omega) rfl (mK (.int 4)) rfl
      refine ⟨[PotV a b, v1, v2, v3, v4, v5, v6, v7, some (.d (.list (IL bs))), v9, v10, v11, v12, some (.d (.int u))], [PotV a' b', v1, v2, v3, v4, v5, v6, v7, some (.d (.list (IL bs))), v9, v10, v11, v12, some (.d (.int u))], .int (u + d), rfl, rfl, rfl, ?_, ⟨a', b', hp', rfl⟩, u, u + d, rfl, rfl, by omega, by omega⟩
      have e0 : mV 13 [PotV a b, v1, v2, v3, v4, v5, v6, v7, some (.d (.list (IL bs))), v9, v10, v11, v12, some (.d (.int u))] = .ok (.d (.int u), [PotV a b, v1, v2, v3, v4, v5, v6, v7, some (.d (.list (IL bs))), v9, v10, v11, v12, some (.d (.int u))]) := rfl
      unfold mD mOp2
      rw [e0]
      simp only [bind_ok]
      rw [e]
      rfl)
    (by unfold IL; rw [List.length_map, sizeLine_eq]; simp; omega)
  have il : (IL bs).length = bs.length := by unfold IL; rw [List.length_map]
  obtain ⟨es, rfl⟩ := IL_of ys fun y hy => by
    obtain ⟨i, hi, e⟩ := List.getElem_of_mem hy
    obtain ⟨u, v, _, h, _⟩ := hR i ((IL bs)[i]'(by omega)) y (List.getElem?_eq_getElem _) (by rw [List.getElem?_eq_getElem hi, e])
    exact ⟨v, h⟩
  refine ⟨a', b', es, hp', by rw [← il, ← hl]; unfold IL; rw [List.length_map], fun i x y hx hy => ?_, by simpa using e⟩
  obtain ⟨u, v, h1, h2, h3, h4⟩ := hR i (.int x) (.int y) (by unfold IL; rw [List.getElem?_map, hx]; rfl) (by unfold IL; rw [List.getElem?_map, hy]; rfl)
  cases h1
  cases h2
  exact ⟨h3, h4⟩
theorem f_is_integer (i : Int) : F_is_integer [.d (.int i)] = .ok (.d (.bool true), [.d (.int i)]) := by
  unfold F_is_integer m_is_integer
  simp [ioOk, Vl.owned, startE, mSeq, mIfS, mOp2, mIxA, mV, lk, mK, ixR, sq, pk, Bx.ok, Bx.x, atI, ixN, ofSum, bo, Res.rs, mAsg, gTp, gs1, gs0, gSbA, stB, gNm, mD, fz, mB, mAs, pks, mRet, finF, resF, outsF, outI, gAdd, Mp.gSub, gMod, gDiv, gMulA, gInt, gDivmod, mSkip, mAnd, mOr, mNot, mBr, mIf, mExpr, gGt_int, gLt_int, gLe_int, gEq_int, gNe_int, Ot.bind, mCall, argV, argV1, varsR, nodupN, putO, mCh, mLen, lenR, mSet, asV, mTup, mLst, allD, mIsA, okIs, known, isTy, tyD, runF, mPar, parE, asN, mFz]
theorem f_is_within (i a b : Int) : F_is_within [.d (.int i), .d (.int a), .d (.int b)] = .ok (.d (.bool (decide (a ≤ i) && decide (i ≤ b))), [.d (.int i), .d (.int a), .d (.int b)]) := by
  unfold F_is_within m_is_within
  by_cases h : a ≤ i <;> simp [ioOk, Vl.owned, startE, mSeq, mIfS, mOp2, mIxA, mV, lk, mK, ixR, sq, pk, Bx.ok, Bx.x, atI, ixN, ofSum, bo, Res.rs, mAsg, gTp, gs1, gs0, gSbA, stB, gNm, mD, fz, mB, mAs, pks, mRet, finF, resF, outsF, outI, gAdd, Mp.gSub, gMod, gDiv, gMulA, gInt, gDivmod, mSkip, mAnd, mOr, mNot, mBr, mIf, mExpr, gGt_int, gLt_int, gLe_int, gEq_int, gNe_int, Ot.bind, mCall, argV, argV1, varsR, nodupN, putO, mCh, mLen, lenR, mSet, asV, mTup, mLst, allD, mIsA, okIs, known, isTy, tyD, runF, mPar, parE, asN, mFz, f_is_integer, h]
theorem f_is_tuple (xs : List D) (n : Int) : F_is_tuple [.d (.tuple xs), .d (.int n)] = .ok (.d (.bool (decide ((xs.length : Int) = n))), [.d (.tuple xs), .d (.int n)]) := by
  unfold F_is_tuple m_is_tuple
  simp [ioOk, Vl.owned, startE, mSeq, mIfS, mOp2, mIxA, mV, lk, mK, ixR, sq, pk, Bx.ok, Bx.x, atI, ixN, ofSum, bo, Res.rs, mAsg, gTp, gs1, gs0, gSbA, stB, gNm, mD, fz, mB, mAs, pks, mRet, finF, resF, outsF, outI, gAdd, Mp.gSub, gMod, gDiv, gMulA, gInt, gDivmod, mSkip, mAnd, mOr, mNot, mBr, mIf, mExpr, gGt_int, gLt_int, gLe_int, gEq_int, gNe_int, Ot.bind, mCall, argV, argV1, varsR, nodupN, putO, mCh, mLen, lenR, mSet, asV, mTup, mLst, allD, mIsA, okIs, known, isTy, tyD, runF, mPar, parE, asN, mFz]
  rfl
theorem f_is_pair_of (n a b : Int) : F_is_pair_of [.d (.int n), .d (pr (a, b))] = .ok (.d (.bool (decide (0 ≤ a ∧ a < n ∧ 0 ≤ b ∧ b < n ∧ a ≠ b))), [.d (.int n), .d (pr (a, b))]) := by
  unfold F_is_pair_of m_is_pair_of is_pair_of_c1 pr
  cases hc : (decide (0 ≤ a) && decide (a ≤ n - 1) && (decide (0 ≤ b) && decide (b ≤ n - 1)))
  all_goals have hc' := hc
  all_goals simp only [Bool.and_eq_true, Bool.and_eq_false_iff, decide_eq_true_eq, decide_eq_false_iff_not] at hc'
  all_goals simp [ioOk, Vl.owned, startE, mSeq, mIfS, mOp2, mIxA, mV, lk, mK, ixR, sq, pk, Bx.ok, Bx.x, atI, ixN, ofSum, bo, Res.rs, mAsg, gTp, gs1, gs0, gSbA, stB, gNm, mD, fz, mB, mAs, pks, mRet, finF, resF, outsF, outI, gAdd, Mp.gSub, gMod, gDiv, gMulA, gInt, gDivmod, mSkip, mAnd, mOr, mNot, mBr, mIf, mExpr, gGt_int, gLt_int, gLe_int, gEq_int, gNe_int, Ot.bind, mCall, argV, argV1, varsR, nodupN, putO, mCh, mLen, lenR, mSet, asV, mTup, mLst, allD, mIsA, okIs, known, isTy, tyD, runF, mPar, parE, asN, mFz, hc, f_is_tuple, f_is_within, mLc, lcGo, mIt, seqD, outs, wipeE, restE, mYes, Ot.nx, sizeLine_eq, gAll, allBool]
  · omega
  · rw [Bool.eq_iff_iff]
    simp
    omega
theorem c_is_closed (ps : List (Int × Int)) (hz : ps.length ≤ 100) (a b : Int) (x3 x4 : Option Vl) : is_closed_c1 [some (.d (.tuple (PL ps))), some (.d (.int a)), some (.d (.int b)), x3, x4] =
    .ok (.new (.lst ((PL ps).map fun x => .bool ((b == (unpr x).1) && !decide ((a, (unpr x).2) ∈ ps)))), [some (.d (.tuple (PL ps))), some (.d (.int a)), some (.d (.int b)), x3, x4]) := by
  unfold is_closed_c1
  have := mLc_pure (n := 5) (it := mIt (mV 0)) (g := gTp 2 (gs1 (gNm (outs 5 [3, 4]) 3) (gs1 (gNm (outs 5 [3, 4]) 4) gs0))) (tt := mYes) (te := mAnd (mOp2 gEq (mV 2) (mV 3)) (mOp2 gNotInA (mTup [mD (mV 1), mD (mV 4)]) (mV 0))) (vs := [3, 4])
    (ρ := [some (.d (.tuple (PL ps))), some (.d (.int a)), some (.d (.int b)), x3, x4]) (ρ1 := [some (.d (.tuple (PL ps))), some (.d (.int a)), some (.d (.int b)), x3, x4])
    (xs := PL ps) (p := fun _ => true) (h := fun x => .bool ((b == (unpr x).1) && !decide ((a, (unpr x).2) ∈ ps))) (by simp [mIt, mV, lk, mD, fz, seqD]) rfl (fun x hx => ?_) (by rw [PL_len, sizeLine_eq]; omega)
  · rw [filter_tt] at this
    exact this
  · obtain ⟨⟨c, d⟩, hq, rfl⟩ := List.mem_map.mp hx
    refine ⟨[some (.d (.tuple (PL ps))), some (.d (.int a)), some (.d (.int b)), some (.d (.int c)), some (.d (.int d))], rfl, rfl, rfl, rfl, fun _ => ?_⟩
    have nin : gNotInA (.tuple [.int a, .int d]) (.tuple (PL ps)) = some (.d (.bool (!decide ((a, d) ∈ ps)))) := gNotIn_PT ps (a, d)
    simp only [unpr_pr]
    cases h : (b == c)
    · simp [ioOk, Vl.owned, startE, mSeq, mIfS, mOp2, mIxA, mV, lk, mK, ixR, sq, pk, Bx.ok, Bx.x, atI, ixN, ofSum, bo, Res.rs, mAsg, gTp, gs1, gs0, gSbA, stB, gNm, mD, fz, mB, mAs, pks, mRet, finF, resF, outsF, outI, gAdd, Mp.gSub, gMod, gDiv, gMulA, gInt, gDivmod, mSkip, mAnd, mOr, mNot, mBr, mIf, mExpr, gGt_int, gLt_int, gLe_int, gEq_int, gNe_int, Ot.bind, mCall, argV, argV1, varsR, nodupN, putO, mCh, mLen, lenR, mSet, asV, mTup, mLst, allD, mIsA, okIs, known, isTy, tyD, runF, mPar, parE, asN, mFz, h, nin]
    · simp [ioOk, Vl.owned, startE, mSeq, mIfS, mOp2, mIxA, mV, lk, mK, ixR, sq, pk, Bx.ok, Bx.x, atI, ixN, ofSum, bo, Res.rs, mAsg, gTp, gs1, gs0, gSbA, stB, gNm, mD, fz, mB, mAs, pks, mRet, finF, resF, outsF, outI, gAdd, Mp.gSub, gMod, gDiv, gMulA, gInt, gDivmod, mSkip, mAnd, mOr, mNot, mBr, mIf, mExpr, gGt_int, gLt_int, gLe_int, gEq_int, gNe_int, Ot.bind, mCall, argV, argV1, varsR, nodupN, putO, mCh, mLen, lenR, mSet, asV, mTup, mLst, allD, mIsA, okIs, known, isTy, tyD, runF, mPar, parE, asN, mFz, h, nin]
      exact decide_eq_decide.mpr Iff.rfl
theorem f_is_closed {n : Int} {ps : List (Int × Int)} (h : Ordr n ps) : F_is_closed [.d (.tuple (PL ps))] = .ok (.d (.bool true), [.d (.tuple (PL ps))]) := by
  have hl := h.len
  obtain ⟨ρ', e, y1, y2, rfl⟩ := forGo_inv (g := gTp 2 (gs1 (gNm [0] 1) (gs1 (gNm [0] 2) gs0))) (b := is_closed_b1) (fun i ρ => ∃ y1 y2, ρ = [some (.d (.tuple (PL ps))), y1, y2, none, none]) (PL ps) 0 [some (.d (.tuple (PL ps))), none, none, none, none] ⟨_, _, rfl⟩
    fun i x ρ hx ⟨y1, y2, e⟩ => by
      subst e
      obtain ⟨⟨a, b⟩, hq, rfl⟩ := List.mem_map.mp (List.mem_of_getElem? hx)
      refine ⟨[some (.d (.tuple (PL ps))), some (.d (.int a)), some (.d (.int b)), none, none], .next, ?_, .inl rfl, _, _, rfl⟩
      have i1 : gInA (.tuple [.int b, .int a]) (.tuple (PL ps)) = some (.d (.bool false)) := by
        have := gIn_PT ps (b, a)
        rw [decide_eq_false (Pm.asy h.irr h.tr hq)] at this
        exact this
      have i2 : (PL ps).any (fun x => (b == (unpr x).1) && !decide ((a, (unpr x).2) ∈ ps)) = false := by
        rw [List.any_eq_false]
        intro x hx
        obtain ⟨⟨c, d⟩, hq2, rfl⟩ := List.mem_map.mp hx
        simp only [unpr_pr, Bool.and_eq_true, beq_iff_eq, Bool.not_eq_true', decide_eq_false_iff_not, not_and, Classical.not_not]
        rintro rfl
        have := h.tr _ _ _ hq hq2
        rw [Bool.not_eq_false]
        exact decide_eq_true this
      have i3 := gAny_map (PL ps) (fun x => (b == (unpr x).1) && !decide ((a, (unpr x).2) ∈ ps))
      rw [i2] at i3
      unfold is_closed_b1
      rw [show gTp 2 (gs1 (gNm [0] 1) (gs1 (gNm [0] 2) gs0)) (pr (a, b)) [some (.d (.tuple (PL ps))), y1, y2, none, none] = .ok [some (.d (.tuple (PL ps))), some (.d (.int a)), some (.d (.int b)), none, none] from rfl]
      simp [ioOk, Vl.owned, startE, mSeq, mIfS, mOp2, mIxA, mV, lk, mK, ixR, sq, pk, Bx.ok, Bx.x, atI, ixN, ofSum, bo, Res.rs, mAsg, gTp, gs1, gs0, gSbA, stB, gNm, mD, fz, mB, mAs, pks, mRet, finF, resF, outsF, outI, gAdd, Mp.gSub, gMod, gDiv, gMulA, gInt, gDivmod, mSkip, mAnd, mOr, mNot, mBr, mIf, mExpr, gGt_int, gLt_int, gLe_int, gEq_int, gNe_int, Ot.bind, mCall, argV, argV1, varsR, nodupN, putO, mCh, mLen, lenR, mSet, asV, mTup, mLst, allD, mIsA, okIs, known, isTy, tyD, runF, mPar, parE, asN, mFz, i1, c_is_closed ps hl, i3]
  unfold F_is_closed m_is_closed is_closed_l1
  simp [ioOk, Vl.owned, startE, mSeq, mIfS, mOp2, mIxA, mV, lk, mK, ixR, sq, pk, Bx.ok, Bx.x, atI, ixN, ofSum, bo, Res.rs, mAsg, gTp, gs1, gs0, gSbA, stB, gNm, mD, fz, mB, mAs, pks, mRet, finF, resF, outsF, outI, gAdd, Mp.gSub, gMod, gDiv, gMulA, gInt, gDivmod, mSkip, mAnd, mOr, mNot, mBr, mIf, mExpr, gGt_int, gLt_int, gLe_int, gEq_int, gNe_int, Ot.bind, mCall, argV, argV1, varsR, nodupN, putO, mCh, mLen, lenR, mSet, asV, mTup, mLst, allD, mIsA, okIs, known, isTy, tyD, runF, mPar, parE, asN, mFz, mFor, mIt, seqD, e]
theorem c1_iov {n : Int} {ps : List (Int × Int)} (h : Ordr n ps) : is_order_value_c1 [some (.d (O n ps)), none, none, none] = .ok (.new (.lst (TT ps.length)), [some (.d (O n ps)), none, none, none]) := by
  have hz := h.len
  rw [← PL_len]
  refine mLc_all (ρ1 := [some (.d (O n ps)), none, none, none]) (by unfold O; simp [ioOk, Vl.owned, startE, mSeq, mIfS, mOp2, mIxA, mV, lk, mK, ixR, sq, pk, Bx.ok, Bx.x, atI, ixN, ofSum, bo, Res.rs, mAsg, gTp, gs1, gs0, gSbA, stB, gNm, mD, fz, mB, mAs, pks, mRet, finF, resF, outsF, outI, gAdd, Mp.gSub, gMod, gDiv, gMulA, gInt, gDivmod, mSkip, mAnd, mOr, mNot, mBr, mIf, mExpr, gGt_int, gLt_int, gLe_int, gEq_int, gNe_int, Ot.bind, mCall, argV, argV1, varsR, nodupN, putO, mCh, mLen, lenR, mSet, asV, mTup, mLst, allD, mIsA, okIs, known, isTy, tyD, runF, mPar, parE, asN, mFz, mIt, seqD]) rfl (fun x hx => ?_) (by rw [PL_len, sizeLine_eq]; omega)
  obtain ⟨⟨c, d⟩, hq, rfl⟩ := List.mem_map.mp hx
  refine ⟨[some (.d (O n ps)), some (.d (pr (c, d))), none, none], rfl, rfl, rfl, ?_⟩
  have hd := f_is_pair_of n c d
  obtain ⟨i1, i2, i3, i4⟩ := h.inr _ hq
  rw [decide_eq_true (p := 0 ≤ c ∧ c < n ∧ 0 ≤ d ∧ d < n ∧ c ≠ d) ⟨i1, i2, i3, i4, fun e => by subst e; exact h.irr _ hq⟩] at hd
  unfold O
  simp [ioOk, Vl.owned, startE, mSeq, mIfS, mOp2, mIxA, mV, lk, mK, ixR, sq, pk, Bx.ok, Bx.x, atI, ixN, ofSum, bo, Res.rs, mAsg, gTp, gs1, gs0, gSbA, stB, gNm, mD, fz, mB, mAs, pks, mRet, finF, resF, outsF, outI, gAdd, Mp.gSub, gMod, gDiv, gMulA, gInt, gDivmod, mSkip, mAnd, mOr, mNot, mBr, mIf, mExpr, gGt_int, gLt_int, gLe_int, gEq_int, gNe_int, Ot.bind, mCall, argV, argV1, varsR, nodupN, putO, mCh, mLen, lenR, mSet, asV, mTup, mLst, allD, mIsA, okIs, known, isTy, tyD, runF, mPar, parE, asN, mFz, hd]
theorem c2_iov {n : Int} {ps : List (Int × Int)} (h : Ordr n ps) : is_order_value_c2 [some (.d (O n ps)), none, none, none] =
    .ok (.new (.lst (TT (pairsD (PL ps) ((PL ps).drop 1)).length)), [some (.d (O n ps)), none, none, none]) := by
  have hz := h.len
  refine mLc_all (ρ1 := [some (.d (O n ps)), none, none, none]) (by unfold O; simp [ioOk, Vl.owned, startE, mSeq, mIfS, mOp2, mIxA, mV, lk, mK, ixR, sq, pk, Bx.ok, Bx.x, atI, ixN, ofSum, bo, Res.rs, mAsg, gTp, gs1, gs0, gSbA, stB, gNm, mD, fz, mB, mAs, pks, mRet, finF, resF, outsF, outI, gAdd, Mp.gSub, gMod, gDiv, gMulA, gInt, gDivmod, mSkip, mAnd, mOr, mNot, mBr, mIf, mExpr, gGt_int, gLt_int, gLe_int, gEq_int, gNe_int, Ot.bind, mCall, argV, argV1, varsR, nodupN, putO, mCh, mLen, lenR, mSet, asV, mTup, mLst, allD, mIsA, okIs, known, isTy, tyD, runF, mPar, parE, asN, mFz, mZip, mSl, mPa, slR, cut1, zipD]) rfl (fun x hx => ?_) ?_
  · obtain ⟨u, v, rfl, h1, h2, h3⟩ := zip_rise (xs := PL ps) h.rise x hx
    obtain ⟨p, _, rfl⟩ := List.mem_map.mp h2
    obtain ⟨q, _, rfl⟩ := List.mem_map.mp h3
    refine ⟨[some (.d (O n ps)), none, some (.d (pr p)), some (.d (pr q))], rfl, rfl, rfl, ?_⟩
    have := gLt_pr h1
    simp [ioOk, Vl.owned, startE, mSeq, mIfS, mOp2, mIxA, mV, lk, mK, ixR, sq, pk, Bx.ok, Bx.x, atI, ixN, ofSum, bo, Res.rs, mAsg, gTp, gs1, gs0, gSbA, stB, gNm, mD, fz, mB, mAs, pks, mRet, finF, resF, outsF, outI, gAdd, Mp.gSub, gMod, gDiv, gMulA, gInt, gDivmod, mSkip, mAnd, mOr, mNot, mBr, mIf, mExpr, gGt_int, gLt_int, gLe_int, gEq_int, gNe_int, Ot.bind, mCall, argV, argV1, varsR, nodupN, putO, mCh, mLen, lenR, mSet, asV, mTup, mLst, allD, mIsA, okIs, known, isTy, tyD, runF, mPar, parE, asN, mFz, this]
  · have : ∀ xs ys : List D, (pairsD xs ys).length ≤ xs.length := by
      intro xs
      induction xs with
      | nil => intro ys; cases ys <;> simp [pairsD]
      | cons x xs ih => intro ys; cases ys with
        | nil => simp [pairsD]
        | cons y ys => simp [pairsD]; exact ih ys
    have h1 := this (PL ps) ((PL ps).drop 1)
    rw [PL_len] at h1
    rw [sizeLine_eq]
    omega
theorem f_iov {n : Int} {ps : List (Int × Int)} (h : Ordr n ps) : F_is_order_value [.d (O n ps)] = .ok (.d (.bool true), [.d (O n ps)]) := by
  have h1 := c1_iov h
  have h2 := c2_iov h
  have g3 := f_is_closed h
  unfold F_is_order_value m_is_order_value
  unfold O at h1 h2 ⊢
  simp [ioOk, Vl.owned, startE, mSeq, mIfS, mOp2, mIxA, mV, lk, mK, ixR, sq, pk, Bx.ok, Bx.x, atI, ixN, ofSum, bo, Res.rs, mAsg, gTp, gs1, gs0, gSbA, stB, gNm, mD, fz, mB, mAs, pks, mRet, finF, resF, outsF, outI, gAdd, Mp.gSub, gMod, gDiv, gMulA, gInt, gDivmod, mSkip, mAnd, mOr, mNot, mBr, mIf, mExpr, gGt_int, gLt_int, gLe_int, gEq_int, gNe_int, Ot.bind, mCall, argV, argV1, varsR, nodupN, putO, mCh, mLen, lenR, mSet, asV, mTup, mLst, allD, mIsA, okIs, known, isTy, tyD, runF, mPar, parE, asN, mFz, f_is_tuple, gNe_order, f_is_within, h.lo, h.hi, h1, h2, gAll_TT, g3]
theorem f_made (n : Int) (qs : List (Int × Int)) : F_made [.d (.int n), .own (.lst (PL qs))] = .ok (.d (O n (srt qs)), [.d (.int n), .own (.lst (PL qs))]) := by
  unfold F_made m_made O
  simp [ioOk, Vl.owned, startE, mSeq, mIfS, mOp2, mIxA, mV, lk, mK, ixR, sq, pk, Bx.ok, Bx.x, atI, ixN, ofSum, bo, Res.rs, mAsg, gTp, gs1, gs0, gSbA, stB, gNm, mD, fz, mB, mAs, pks, mRet, finF, resF, outsF, outI, gAdd, Mp.gSub, gMod, gDiv, gMulA, gInt, gDivmod, mSkip, mAnd, mOr, mNot, mBr, mIf, mExpr, gGt_int, gLt_int, gLe_int, gEq_int, gNe_int, Ot.bind, mCall, argV, argV1, varsR, nodupN, putO, mCh, mLen, lenR, mSet, asV, mTup, mLst, allD, mIsA, okIs, known, isTy, tyD, runF, mPar, parE, asN, mFz, gSort_PL, gTuple]
theorem f_want_order {n : Int} {ps : List (Int × Int)} (h : Ordr n ps) : F_want_order [.d (O n ps)] = .ok (.d .none, [.d (O n ps)]) := by
  unfold F_want_order m_want_order
  simp [ioOk, Vl.owned, startE, mSeq, mIfS, mOp2, mIxA, mV, lk, mK, ixR, sq, pk, Bx.ok, Bx.x, atI, ixN, ofSum, bo, Res.rs, mAsg, gTp, gs1, gs0, gSbA, stB, gNm, mD, fz, mB, mAs, pks, mRet, finF, resF, outsF, outI, gAdd, Mp.gSub, gMod, gDiv, gMulA, gInt, gDivmod, mSkip, mAnd, mOr, mNot, mBr, mIf, mExpr, gGt_int, gLt_int, gLe_int, gEq_int, gNe_int, Ot.bind, mCall, argV, argV1, varsR, nodupN, putO, mCh, mLen, lenR, mSet, asV, mTup, mLst, allD, mIsA, okIs, known, isTy, tyD, runF, mPar, parE, asN, mFz, f_iov h]
theorem f_is_order {n : Int} {ps : List (Int × Int)} (h : Ordr n ps) : F_is_order [.d (O n ps)] = .ok (.d (.bool true), [.d (O n ps)]) := by
  unfold F_is_order m_is_order
  simp [ioOk, Vl.owned, startE, mSeq, mIfS, mOp2, mIxA, mV, lk, mK, ixR, sq, pk, Bx.ok, Bx.x, atI, ixN, ofSum, bo, Res.rs, mAsg, gTp, gs1, gs0, gSbA, stB, gNm, mD, fz, mB, mAs, pks, mRet, finF, resF, outsF, outI, gAdd, Mp.gSub, gMod, gDiv, gMulA, gInt, gDivmod, mSkip, mAnd, mOr, mNot, mBr, mIf, mExpr, gGt_int, gLt_int, gLe_int, gEq_int, gNe_int, Ot.bind, mCall, argV, argV1, varsR, nodupN, putO, mCh, mLen, lenR, mSet, asV, mTup, mLst, allD, mIsA, okIs, known, isTy, tyD, runF, mPar, parE, asN, mFz, f_iov h]
theorem f_want_pair {n a b : Int} (h : 0 ≤ a ∧ a < n ∧ 0 ≤ b ∧ b < n ∧ a ≠ b) : F_want_pair [.d (.int n), .d (pr (a, b))] = .ok (.d .none, [.d (.int n), .d (pr (a, b))]) := by
  unfold F_want_pair m_want_pair
  have := f_is_pair_of n a b
  rw [decide_eq_true h] at this
  simp [ioOk, Vl.owned, startE, mSeq, mIfS, mOp2, mIxA, mV, lk, mK, ixR, sq, pk, Bx.ok, Bx.x, atI, ixN, ofSum, bo, Res.rs, mAsg, gTp, gs1, gs0, gSbA, stB, gNm, mD, fz, mB, mAs, pks, mRet, finF, resF, outsF, outI, gAdd, Mp.gSub, gMod, gDiv, gMulA, gInt, gDivmod, mSkip, mAnd, mOr, mNot, mBr, mIf, mExpr, gGt_int, gLt_int, gLe_int, gEq_int, gNe_int, Ot.bind, mCall, argV, argV1, varsR, nodupN, putO, mCh, mLen, lenR, mSet, asV, mTup, mLst, allD, mIsA, okIs, known, isTy, tyD, runF, mPar, parE, asN, mFz, this]
theorem c1_follows {w : D} (qs : List (Int × Int)) (hz : qs.length ≤ 1000) (v0 v1 v2 v3 v4 v5 v6 v8 x9 x10 : Option Vl) (h : Int) (hv : LV v1 w qs) :
    follows_c1 [v0, v1, v2, v3, v4, v5, v6, some (.d (.int h)), v8, x9, x10] = .ok (.new (.lst (IL (succ qs h))), [v0, some (.d w), v2, v3, v4, v5, v6, some (.d (.int h)), v8, x9, x10]) := by
  unfold follows_c1
  have := mLc_pure (n := 11) (it := mIt (mV 1)) (g := gTp 2 (gs1 (gNm (outs 11 [9, 10]) 9) (gs1 (gNm (outs 11 [9, 10]) 10) gs0))) (tt := mOp2 gEq (mV 9) (mV 7)) (te := mV 10) (vs := [9, 10])
    (ρ := [v0, v1, v2, v3, v4, v5, v6, some (.d (.int h)), v8, x9, x10]) (ρ1 := [v0, some (.d w), v2, v3, v4, v5, v6, some (.d (.int h)), v8, x9, x10])
    (xs := PL qs) (p := fun x => (unpr x).1 == h) (h := fun x => .int (unpr x).2) (by rcases hv with ⟨rfl | rfl, rfl | ⟨e, rfl⟩⟩ <;> first | (cases e; done) | simp [ioOk, Vl.owned, startE, mSeq, mIfS, mOp2, mIxA, mV, lk, mK, ixR, sq, pk, Bx.ok, Bx.x, atI, ixN, ofSum, bo, Res.rs, mAsg, gTp, gs1, gs0, gSbA, stB, gNm, mD, fz, mB, mAs, pks, mRet, finF, resF, outsF, outI, gAdd, Mp.gSub, gMod, gDiv, gMulA, gInt, gDivmod, mSkip, mAnd, mOr, mNot, mBr, mIf, mExpr, gGt_int, gLt_int, gLe_int, gEq_int, gNe_int, Ot.bind, mCall, argV, argV1, varsR, nodupN, putO, mCh, mLen, lenR, mSet, asV, mTup, mLst, allD, mIsA, okIs, known, isTy, tyD, runF, mPar, parE, asN, mFz, mIt, seqD]) rfl (fun x hx => ?_) (by rw [PL_len, sizeLine_eq]; omega)
  · rw [this, PL_fm qs (fun q => q.1 == h) (fun q => .int q.2)]
    unfold succ IL
    rw [List.map_map]
    rfl
  · obtain ⟨⟨c, d⟩, hq, rfl⟩ := List.mem_map.mp hx
    exact ⟨[v0, some (.d w), v2, v3, v4, v5, v6, some (.d (.int h)), v8, some (.d (.int c)), some (.d (.int d))], rfl, rfl, by simp [ioOk, Vl.owned, startE, mSeq, mIfS, mOp2, mIxA, mV, lk, mK, ixR, sq, pk, Bx.ok, Bx.x, atI, ixN, ofSum, bo, Res.rs, mAsg, gTp, gs1, gs0, gSbA, stB, gNm, mD, fz, mB, mAs, pks, mRet, finF, resF, outsF, outI, gAdd, Mp.gSub, gMod, gDiv, gMulA, gInt, gDivmod, mSkip, mAnd, mOr, mNot, mBr, mIf, mExpr, gGt_int, gLt_int, gLe_int, gEq_int, gNe_int, Ot.bind, mCall, argV, argV1, varsR, nodupN, putO, mCh, mLen, lenR, mSet, asV, mTup, mLst, allD, mIsA, okIs, known, isTy, tyD, runF, mPar, parE, asN, mFz, unpr_pr], rfl, fun _ => rfl⟩
theorem b1_old {y : Int} {kvs : KR} (h : y ∈ ks kvs) (v0 v1 v2 v3 v4 v6 v7 v9 v10 : Option Vl) : follows_b1 [v0, v1, v2, v3, v4, some (.own (.dct (DK kvs))), v6, v7, some (.d (.int y)), v9, v10] =
    .ok (.next, [v0, v1, v2, v3, v4, some (.own (.dct (DK kvs))), v6, v7, some (.d (.int y)), v9, v10]) := by
  have g := gNin_DK y kvs
  rcases val_DK y kvs with ⟨h1, _⟩ | ⟨p, h1, h2⟩
  · exact absurd h h1
  · rw [h2] at g
    unfold follows_b1
    simp [ioOk, Vl.owned, startE, mSeq, mIfS, mOp2, mIxA, mV, lk, mK, ixR, sq, pk, Bx.ok, Bx.x, atI, ixN, ofSum, bo, Res.rs, mAsg, gTp, gs1, gs0, gSbA, stB, gNm, mD, fz, mB, mAs, pks, mRet, finF, resF, outsF, outI, gAdd, Mp.gSub, gMod, gDiv, gMulA, gInt, gDivmod, mSkip, mAnd, mOr, mNot, mBr, mIf, mExpr, gGt_int, gLt_int, gLe_int, gEq_int, gNe_int, Ot.bind, mCall, argV, argV1, varsR, nodupN, putO, mCh, mLen, lenR, mSet, asV, mTup, mLst, allD, mIsA, okIs, known, isTy, tyD, runF, mPar, parE, asN, mFz, g]
theorem b1_new {y : Int} {kvs : KR} {late : List Int} (h : y ∉ ks kvs) (hz : kvs.length ≤ 100) (hl : late.length ≤ 100) (hp : ∀ k p, (k, p) ∈ kvs → p.length ≤ kvs.length + 1) (bg hr : Int) (v0 v1 v2 v4 v9 v10 : Option Vl) : ∃ p, p.length ≤ kvs.length + 2 ∧ ((p = [bg, y] ∧ hr ∉ ks kvs) ∨ ∃ r, (hr, r) ∈ kvs ∧ p = r ++ [y]) ∧
    follows_b1 [v0, v1, v2, some (.d (.int bg)), v4, some (.own (.dct (DK kvs))), some (.own (.lst (IL late))), some (.d (.int hr)), some (.d (.int y)), v9, v10] =
    .ok (.next, [v0, v1, v2, some (.d (.int bg)), v4, some (.own (.dct (DK (kvs ++ [(y, p)])))), some (.own (.lst (IL (late ++ [y])))), some (.d (.int hr)), some (.d (.int y)), v9, v10]) := by
  have g := gNin_DK y kvs
  have hv : valD (DK kvs) (.inl y) = none := by
    rcases val_DK y kvs with ⟨_, h2⟩ | ⟨p, h1, _⟩
    · exact h2
    · exact absurd (mem_ks h1) h
  rw [hv] at g
  have hd : (DK kvs).length < 1000000 := by unfold DK; rw [List.length_map]; omega
  have ap : fAppend (IL late) [.int y] = some (.none, IL (late ++ [y])) := by
    unfold fAppend
    have : (IL late).length < sizeLine := by rw [IL_len, sizeLine_eq]; omega
    simp only [this, if_true]
    rw [IL_app]
    rfl
  rcases val_DK hr kvs with ⟨h1, h2⟩ | ⟨p, h1, h2⟩
  · refine ⟨[bg, y], by simp, .inl ⟨rfl, h1⟩, ?_⟩
    have pt := put_DK (p := [bg, y]) h
    have e : ([.int bg, .int y] : List D) = IL [bg, y] := rfl
    unfold follows_b1
    simp [ioOk, Vl.owned, startE, mSeq, mIfS, mOp2, mIxA, mV, lk, mK, ixR, sq, pk, Bx.ok, Bx.x, atI, ixN, ofSum, bo, Res.rs, mAsg, gTp, gs1, gs0, gSbA, stB, gNm, mD, fz, mB, mAs, pks, mRet, finF, resF, outsF, outI, gAdd, Mp.gSub, gMod, gDiv, gMulA, gInt, gDivmod, mSkip, mAnd, mOr, mNot, mBr, mIf, mExpr, gGt_int, gLt_int, gLe_int, gEq_int, gNe_int, Ot.bind, mCall, argV, argV1, varsR, nodupN, putO, mCh, mLen, lenR, mSet, asV, mTup, mLst, allD, mIsA, okIs, known, isTy, tyD, runF, mPar, parE, asN, mFz, g, mGet2, isDk, unK_kvD, getR, keyOfD, h2, sizeLine_eq, e, pt, hd, mOwn, ownL, ap]
  · refine ⟨p ++ [y], by have := hp _ _ h1; simp; omega, .inr ⟨p, h1, rfl⟩, ?_⟩
    have pt := put_DK (p := p ++ [y]) h
    have hpl := hp _ _ h1
    have hz2 : (IL p).length + 1 ≤ sizeLine := by rw [IL_len, sizeLine_eq]; omega
    have e : IL p ++ [.int y] = IL (p ++ [y]) := by rw [IL_app]; rfl
    unfold follows_b1
    simp [ioOk, Vl.owned, startE, mSeq, mIfS, mOp2, mIxA, mV, lk, mK, ixR, sq, pk, Bx.ok, Bx.x, atI, ixN, ofSum, bo, Res.rs, mAsg, gTp, gs1, gs0, gSbA, stB, gNm, mD, fz, mB, mAs, pks, mRet, finF, resF, outsF, outI, gAdd, Mp.gSub, gMod, gDiv, gMulA, gInt, gDivmod, mSkip, mAnd, mOr, mNot, mBr, mIf, mExpr, gGt_int, gLt_int, gLe_int, gEq_int, gNe_int, Ot.bind, mCall, argV, argV1, varsR, nodupN, putO, mCh, mLen, lenR, mSet, asV, mTup, mLst, allD, mIsA, okIs, known, isTy, tyD, runF, mPar, parE, asN, mFz, g, mGet2, isDk, unK_kvD, getR, keyOfD, h2, hz2, e, pt, hd, mOwn, ownL, ap]
theorem l1_follows {w : D} {n : Int} {qs : List (Int × Int)} (hq : Pm.InR n qs) (hn : n ≤ 10) (hz : qs.length ≤ 1000) (hs : ∀ h, (succ qs h).length < 64) {bg hr : Int} (hrr : hr = bg ∨ Pm.Rch qs bg hr) {kvs : KR} {T late : List Int}
    (J : Jn n qs bg kvs (hr :: (T ++ late))) (hl : late.length ≤ kvs.length) (v0 v1 v2 v4 v8 v9 v10 : Option Vl) (hv : LV v1 w qs) : ∃ kvs' new v8', Jn n qs bg kvs' (T ++ (late ++ new)) ∧ kvs'.length = kvs.length + new.length ∧
    follows_l1 [v0, v1, v2, some (.d (.int bg)), v4, some (.own (.dct (DK kvs))), some (.own (.lst (IL late))), some (.d (.int hr)), v8, v9, v10] =
    .ok (.next, [v0, some (.d w), v2, some (.d (.int bg)), v4, some (.own (.dct (DK kvs'))), some (.own (.lst (IL (late ++ new)))), some (.d (.int hr)), v8', v9, v10]) := by
  obtain ⟨ss, e1, hm, _⟩ := gSS_IL (succ qs hr) (hs hr)
  have e0 := c1_follows qs hz v0 v1 v2 (some (.d (.int bg))) v4 (some (.own (.dct (DK kvs)))) (some (.own (.lst (IL late)))) v8 v9 v10 hr hv
  obtain ⟨ρ', e, kvs', new, v8', rfl, J', hk, hy⟩ := forGo_inv (g := gNm [0, 1] 8) (b := follows_b1) (fun i ρ => ∃ kvs' new v8', ρ = [v0, some (.d w), v2, some (.d (.int bg)), v4, some (.own (.dct (DK kvs'))), some (.own (.lst (IL (late ++ new)))), some (.d (.int hr)), v8', v9, v10] ∧
      Jn n qs bg kvs' (hr :: (T ++ (late ++ new))) ∧ kvs'.length = kvs.length + new.length ∧ ∀ y ∈ ss.take i, y ∈ ks kvs') (IL ss) 0 [v0, some (.d w), v2, some (.d (.int bg)), v4, some (.own (.dct (DK kvs))), some (.own (.lst (IL late))), some (.d (.int hr)), v8, v9, v10]
    ⟨kvs, [], v8, by rw [List.append_nil], by rw [List.append_nil]; exact J, rfl, fun y h => by simp at h⟩ fun i x ρ hx ⟨kvs', new, v8', eρ, J', hk, hy⟩ => by
      subst eρ
      rw [Nat.zero_add] at hy ⊢
      unfold IL at hx
      rw [List.getElem?_map] at hx
      obtain ⟨y, hy', rfl⟩ := Option.map_eq_some_iff.mp hx
      have eg : gNm [0, 1] 8 (.int y) [v0, some (.d w), v2, some (.d (.int bg)), v4, some (.own (.dct (DK kvs'))), some (.own (.lst (IL (late ++ new)))), some (.d (.int hr)), v8', v9, v10] = .ok [v0, some (.d w), v2, some (.d (.int bg)), v4, some (.own (.dct (DK kvs'))), some (.own (.lst (IL (late ++ new)))), some (.d (.int hr)), some (.d (.int y)), v9, v10] := rfl
      have me : (hr, y) ∈ qs := mem_succ.mp ((hm y).mp (List.mem_of_getElem? hy'))
      have hlen := J'.len hq hn
      rw [eg, take_snoc hy']
      simp only [bind_ok]
      by_cases hin : y ∈ ks kvs'
      · refine ⟨_, .next, b1_old hin .., .inl rfl, kvs', new, _, rfl, J', hk, fun z hz => ?_⟩
        rcases List.mem_append.mp hz with h | h
        · exact hy z h
        · rw [List.mem_singleton.mp h]; exact hin
      · obtain ⟨p, hp, hw, eb⟩ := b1_new (late := late ++ new) hin (by omega) (by rw [List.length_append]; omega) J'.pl bg hr v0 (some (.d w)) v2 v4 v9 v10
        refine ⟨_, .next, eb, .inl rfl, kvs' ++ [(y, p)], new ++ [y], _, by rw [List.append_assoc], ?_, by rw [List.length_append, List.length_append]; simp; omega, fun z hz => ?_⟩
        · have := J'.add (p := p) hin (by rcases hrr with rfl | r; · exact .one me
                                          · exact .more r me) (by omega) (by
            rcases hw with ⟨rfl, h1⟩ | ⟨r, h1, rfl⟩
            · rcases J'.sub hr List.mem_cons_self with rfl | h2
              · exact .two me
              · exact absurd h2 h1
            · exact (J'.row _ _ h1).snoc me)
          rw [List.cons_append, List.append_assoc, List.append_assoc] at this
          exact this
        · rw [ks_app]
          rcases List.mem_append.mp hz with h | h
          · exact List.mem_append.mpr (.inl (hy z h))
          · exact List.mem_append.mpr (.inr h)
  refine ⟨kvs', new, v8', J'.done fun y h => hy y ?_, hk, ?_⟩
  · rw [Nat.zero_add, IL_len, List.take_length]
    exact (hm y).mpr (mem_succ.mpr h)
  · unfold follows_l1
    simp [ioOk, Vl.owned, startE, mSeq, mIfS, mOp2, mIxA, mV, lk, mK, ixR, sq, pk, Bx.ok, Bx.x, atI, ixN, ofSum, bo, Res.rs, mAsg, gTp, gs1, gs0, gSbA, stB, gNm, mD, fz, mB, mAs, pks, mRet, finF, resF, outsF, outI, gAdd, Mp.gSub, gMod, gDiv, gMulA, gInt, gDivmod, mSkip, mAnd, mOr, mNot, mBr, mIf, mExpr, gGt_int, gLt_int, gLe_int, gEq_int, gNe_int, Ot.bind, mCall, argV, argV1, varsR, nodupN, putO, mCh, mLen, lenR, mSet, asV, mTup, mLst, allD, mIsA, okIs, known, isTy, tyD, runF, mPar, parE, asN, mFz, mFor, mIt, mSSA, mSS, e0, e1, seqD, e]
/-- `for here in last` -/
theorem l2_follows {w : D} {n : Int} {qs : List (Int × Int)} (hq : Pm.InR n qs) (hn : n ≤ 10) (hz : qs.length ≤ 1000) (hs : ∀ h, (succ qs h).length < 64) {bg : Int} {kvs : KR} {last : List Int}
    (J : Jn n qs bg kvs last) (v0 v1 v2 v4 v7 v8 v9 v10 : Option Vl) (hv : LV v1 w qs) (hv4 : LI v4 last) (hne : last ≠ []) : ∃ kvs' late v7' v8', Jn n qs bg kvs' late ∧ kvs'.length = kvs.length + late.length ∧
    follows_l2 [v0, v1, v2, some (.d (.int bg)), v4, some (.own (.dct (DK kvs))), some (.own (.lst (IL []))), v7, v8, v9, v10] =
    .ok (.next, [v0, some (.d w), v2, some (.d (.int bg)), some (.d (.list (IL last))), some (.own (.dct (DK kvs'))), some (.own (.lst (IL late))), v7', v8', v9, v10]) := by
  obtain ⟨ρ', e, kvs', late, v1', v7', v8', rfl, hv1', hv1, J', hk⟩ := forGo_inv (g := gNm [0, 1] 7) (b := follows_b2) (fun i ρ => ∃ kvs' late v1' v7' v8', ρ = [v0, v1', v2, some (.d (.int bg)), some (.d (.list (IL last))), some (.own (.dct (DK kvs'))), some (.own (.lst (IL late))), v7', v8', v9, v10] ∧
      LV v1' w qs ∧ (0 < i → v1' = some (.d w)) ∧ Jn n qs bg kvs' (last.drop i ++ late) ∧ kvs'.length = kvs.length + late.length) (IL last) 0 [v0, v1, v2, some (.d (.int bg)), some (.d (.list (IL last))), some (.own (.dct (DK kvs))), some (.own (.lst (IL []))), v7, v8, v9, v10]
    ⟨kvs, [], v1, v7, v8, rfl, hv, fun h => absurd h (Nat.lt_irrefl _), by rw [List.drop_zero, List.append_nil]; exact J, rfl⟩ fun i x ρ hx ⟨kvs', late, v1', v7', v8', eρ, hv', _, J', hk⟩ => by
      subst eρ
      rw [Nat.zero_add] at J' ⊢
      unfold IL at hx
      rw [List.getElem?_map] at hx
      obtain ⟨hr, hx', rfl⟩ := Option.map_eq_some_iff.mp hx
      have hi : i < last.length := (List.getElem?_eq_some_iff.mp hx').1
      have ed : last.drop i = hr :: last.drop (i + 1) := by
        rw [List.drop_eq_getElem_cons hi]
        congr 1
        exact (List.getElem?_eq_some_iff.mp hx').2
      rw [ed, List.cons_append] at J'
      obtain ⟨kvs2, new, v82, J2, hk2, e2⟩ := l1_follows hq hn hz hs (by
        rcases J'.sub hr List.mem_cons_self with h | h
        · exact .inl h
        · exact .inr (J'.snd hr h)) J' (by omega) v0 v1' v2 (some (.d (.list (IL last)))) v8' v9 v10 hv'
      exact ⟨_, .next, e2, .inl rfl, kvs2, late ++ new, _, _, _, rfl, ⟨hv'.1, .inl rfl⟩, fun _ => rfl, J2, by rw [List.length_append]; omega⟩
  rw [Nat.zero_add, IL_len, List.drop_length, List.nil_append] at J'
  rw [Nat.zero_add, IL_len] at hv1
  obtain rfl := hv1 (List.length_pos_iff.mpr hne)
  refine ⟨kvs', late, v7', v8', J', hk, ?_⟩
  unfold follows_l2
  rcases hv4 with rfl | rfl <;> simp [ioOk, Vl.owned, startE, mSeq, mIfS, mOp2, mIxA, mV, lk, mK, ixR, sq, pk, Bx.ok, Bx.x, atI, ixN, ofSum, bo, Res.rs, mAsg, gTp, gs1, gs0, gSbA, stB, gNm, mD, fz, mB, mAs, pks, mRet, finF, resF, outsF, outI, gAdd, Mp.gSub, gMod, gDiv, gMulA, gInt, gDivmod, mSkip, mAnd, mOr, mNot, mBr, mIf, mExpr, gGt_int, gLt_int, gLe_int, gEq_int, gNe_int, Ot.bind, mCall, argV, argV1, varsR, nodupN, putO, mCh, mLen, lenR, mSet, asV, mTup, mLst, allD, mIsA, okIs, known, isTy, tyD, runF, mPar, parE, asN, mFz, mFor, mIt, seqD, e]
theorem l3_follows {w : D} {n : Int} {qs : List (Int × Int)} (hq : Pm.InR n qs) (hn : n ≤ 10) (hz : qs.length ≤ 1000) (hs : ∀ h, (succ qs h).length < 64) (bg : Int) (v0 v1 v2 v6 v7 v8 v9 v10 : Option Vl) (hv : LV v1 w qs) : ∃ kvs v4' v6' v7' v8',
    Jn n qs bg kvs [] ∧ follows_l3 [v0, v1, v2, some (.d (.int bg)), some (.own (.lst (IL [bg]))), some (.own (.dct (DK []))), v6, v7, v8, v9, v10] =
    .ok (.next, [v0, some (.d w), v2, some (.d (.int bg)), v4', some (.own (.dct (DK kvs))), v6', v7', v8', v9, v10]) := by
  obtain ⟨ρ', e, kvs, v4', v6', v7', v8', rfl, J⟩ := whGo_wf (c := mOp2 gNe (mV 4) (mLst [])) (b := follows_b3)
    (P := fun k ρ => ∃ kvs last v1' v4 v6 v7 v8, ρ = [v0, v1', v2, some (.d (.int bg)), v4, some (.own (.dct (DK kvs))), v6, v7, v8, v9, v10] ∧ LV v1' w qs ∧ (last = [] → v1' = some (.d w)) ∧ LI v4 last ∧ Jn n qs bg kvs last ∧ k = 2 * (20 - kvs.length) + (if last = [] then 0 else 1))
    (Z := fun ρ => ∃ kvs v4 v6 v7 v8, ρ = [v0, some (.d w), v2, some (.d (.int bg)), v4, some (.own (.dct (DK kvs))), v6, v7, v8, v9, v10] ∧ Jn n qs bg kvs [])
    (fun k ρ ⟨kvs, last, v1', v4, v6, v7, v8, eρ, hv', hv1, hv4, J, hk⟩ => by
      subst eρ
      have T : mOp2 gNe (mV 4) (mLst []) [v0, v1', v2, some (.d (.int bg)), v4, some (.own (.dct (DK kvs))), v6, v7, v8, v9, v10] = .ok (.d (.bool (!last.isEmpty)), [v0, v1', v2, some (.d (.int bg)), v4, some (.own (.dct (DK kvs))), v6, v7, v8, v9, v10]) := by
        have := gNe_nil last
        rcases hv4 with rfl | rfl <;> simp [ioOk, Vl.owned, startE, mSeq, mIfS, mOp2, mIxA, mV, lk, mK, ixR, sq, pk, Bx.ok, Bx.x, atI, ixN, ofSum, bo, Res.rs, mAsg, gTp, gs1, gs0, gSbA, stB, gNm, mD, fz, mB, mAs, pks, mRet, finF, resF, outsF, outI, gAdd, Mp.gSub, gMod, gDiv, gMulA, gInt, gDivmod, mSkip, mAnd, mOr, mNot, mBr, mIf, mExpr, gGt_int, gLt_int, gLe_int, gEq_int, gNe_int, Ot.bind, mCall, argV, argV1, varsR, nodupN, putO, mCh, mLen, lenR, mSet, asV, mTup, mLst, allD, mIsA, okIs, known, isTy, tyD, runF, mPar, parE, asN, mFz, this]
      by_cases h : last = []
      · subst h
        obtain rfl := hv1 rfl
        exact .inl ⟨_, T, kvs, v4, v6, v7, v8, rfl, J⟩
      · have hb : last.isEmpty = false := by cases last <;> simp_all
        rw [hb] at T
        obtain ⟨kvs', late, v7', v8', J', hk', e⟩ := l2_follows hq hn hz hs J v0 v1' v2 v4 v7 v8 v9 v10 hv' hv4 h
        refine .inr ⟨_, [v0, some (.d w), v2, some (.d (.int bg)), some (.d (.list (IL late))), some (.own (.dct (DK kvs'))), some (.d (.list (IL late))), v7', v8', v9, v10], .next, _, T, ?_, .inl rfl, ?_, kvs', late, _, _, _, _, _, rfl, ⟨hv'.1, .inl rfl⟩, fun _ => rfl, .inl rfl, J', rfl⟩
        · unfold follows_b3
          have e' : follows_l2 [v0, v1', v2, some (.d (.int bg)), v4, some (.own (.dct (DK kvs))), some (.own (.lst [])), v7, v8, v9, v10] = _ := e
          simp [ioOk, Vl.owned, startE, mSeq, mIfS, mOp2, mIxA, mV, lk, mK, ixR, sq, pk, Bx.ok, Bx.x, atI, ixN, ofSum, bo, Res.rs, mAsg, gTp, gs1, gs0, gSbA, stB, gNm, mD, fz, mB, mAs, pks, mRet, finF, resF, outsF, outI, gAdd, Mp.gSub, gMod, gDiv, gMulA, gInt, gDivmod, mSkip, mAnd, mOr, mNot, mBr, mIf, mExpr, gGt_int, gLt_int, gLe_int, gEq_int, gNe_int, Ot.bind, mCall, argV, argV1, varsR, nodupN, putO, mCh, mLen, lenR, mSet, asV, mTup, mLst, allD, mIsA, okIs, known, isTy, tyD, runF, mPar, parE, asN, mFz, e']
        · have := J'.len hq hn
          rw [hk, if_neg h]
          split
          · rename_i hl
            subst hl
            simp at hk'
            omega
          · rename_i hl
            have : 0 < late.length := List.length_pos_iff.mpr hl
            omega)
    100000 (2 * (20 - 0) + 1) [v0, v1, v2, some (.d (.int bg)), some (.own (.lst (IL [bg]))), some (.own (.dct (DK []))), v6, v7, v8, v9, v10] (by omega)
    ⟨[], [bg], v1, _, v6, v7, v8, rfl, hv, (fun h => (List.cons_ne_nil _ _ h).elim), Or.inr rfl, Jn.start n qs bg, by simp⟩
  exact ⟨kvs, v4', v6', v7', v8', J, e⟩
theorem f_follows {w : D} {n : Nat} {qs : List (Int × Int)} (hq : Pm.InR n qs) (hn0 : 1 ≤ n) (hn : n ≤ 10) (hz : qs.length ≤ 1000) (hs : ∀ h, (succ qs h).length < 64) (v1 : Vl) (hv : LV (some v1) w qs) :
    ∃ f : KK, f.map Prod.fst = upI n ∧ (∀ b r, (b, r) ∈ f → Jn n qs b r []) ∧ F_follows [.d (.int n), v1] = .ok (.new (.dct (DKK f)), [.d (.int n), .d w]) := by
  obtain ⟨ρ', e, f, v1', v3, v4, v5, v6, v7, v8, rfl, hv', hv1, hf, hJ⟩ := forGo_inv (g := gNm [0, 1] 3) (b := follows_b4)
    (fun i ρ => ∃ f v1' v3 v4 v5 v6 v7 v8, ρ = [some (.d (.int n)), v1', some (.own (.dct (DKK f))), v3, v4, v5, v6, v7, v8, none, none] ∧ LV v1' w qs ∧ (0 < i → v1' = some (.d w)) ∧ f.map Prod.fst = upI i ∧ ∀ b r, (b, r) ∈ f → Jn n qs b r [])
    (IL (upI n)) 0 [some (.d (.int n)), some v1, some (.own (.dct (DKK []))), none, none, none, none, none, none, none, none]
    ⟨[], some v1, none, none, none, none, none, none, rfl, hv, fun h => absurd h (Nat.lt_irrefl _), rfl, fun b r h => by cases h⟩
    fun i x ρ hx ⟨f, v1', v3, v4, v5, v6, v7, v8, eρ, hv', _, hf, hJ⟩ => by
      subst eρ
      rw [Nat.zero_add] at hf ⊢
      have hi : i < n := by
        have := (List.getElem?_eq_some_iff.mp hx).1
        rw [IL_len, upI_len] at this
        exact this
      have ex : x = .int (i : Int) := by
        unfold IL at hx
        rw [List.getElem?_map, upI_get hi] at hx
        exact (Option.some.inj hx).symm
      subst ex
      obtain ⟨kvs, v4', v6', v7', v8', J, e⟩ := l3_follows hq (by omega) hz hs (i : Int) (some (.d (.int n))) v1' (some (.own (.dct (DKK f)))) v6 v7 v8 none none hv'
      have hnin : ((i : Int)) ∉ f.map Prod.fst := by rw [hf, mem_upI]; omega
      have fl : (DKK f).length < 1000000 := by
        have := congrArg List.length hf
        rw [List.length_map, upI_len] at this
        unfold DKK
        rw [List.length_map]
        omega
      refine ⟨[some (.d (.int n)), some (.d w), some (.own (.dct (DKK (f ++ [((i : Int), kvs)])))), some (.d (.int i)), v4', some (.d (.dict (kvD (DK kvs)))), v6', v7', v8', none, none], .next, ?_, .inl rfl, f ++ [((i : Int), kvs)], _, _, _, _, _, _, _, rfl, ⟨hv'.1, .inl rfl⟩, fun _ => rfl, ?_, ?_⟩
      · have pt := put_DKK (r := kvs) hnin
        have e' : follows_l3 [some (.d (.int n)), v1', some (.own (.dct (DKK f))), some (.d (.int i)), some (.own (.lst [.int i])), some (.own (.dct [])), v6, v7, v8, none, none] = _ := e
        unfold follows_b4
        simp [ioOk, Vl.owned, startE, mSeq, mIfS, mOp2, mIxA, mV, lk, mK, ixR, sq, pk, Bx.ok, Bx.x, atI, ixN, ofSum, bo, Res.rs, mAsg, gTp, gs1, gs0, gSbA, stB, gNm, mD, fz, mB, mAs, pks, mRet, finF, resF, outsF, outI, gAdd, Mp.gSub, gMod, gDiv, gMulA, gInt, gDivmod, mSkip, mAnd, mOr, mNot, mBr, mIf, mExpr, gGt_int, gLt_int, gLe_int, gEq_int, gNe_int, Ot.bind, mCall, argV, argV1, varsR, nodupN, putO, mCh, mLen, lenR, mSet, asV, mTup, mLst, allD, mIsA, okIs, known, isTy, tyD, runF, mPar, parE, asN, mFz, mPar, parE, asN, mFz, mDic, e', keyOfD, fl, pt]
      · rw [List.map_append, hf]
        unfold upI
        rw [List.range_succ, List.map_append]
        rfl
      · intro b r h
        rcases List.mem_append.mp h with h | h
        · exact hJ b r h
        · simp at h
          obtain ⟨rfl, rfl⟩ := h
          exact J
  rw [Nat.zero_add, IL_len, upI_len] at hf hv1
  obtain rfl := hv1 (by omega)
  refine ⟨f, hf, hJ, ?_⟩
  have r1 : mRange rg1 [mV 0] [some (.d (.int n)), some v1, some (.own (.dct [])), none, none, none, none, none, none, none, none] = _ := range1 (n := n) (by omega) rfl
  have e' : forGo (gNm [0, 1] 3) follows_b4 (IL (upI n)) [some (.d (.int n)), some v1, some (.own (.dct [])), none, none, none, none, none, none, none, none] = _ := e
  unfold F_follows m_follows follows_l4
  rcases hv with ⟨hw, h | ⟨rfl, h⟩⟩ <;> (cases h; simp [ioOk, Vl.owned, startE, mSeq, mIfS, mOp2, mIxA, mV, lk, mK, ixR, sq, pk, Bx.ok, Bx.x, atI, ixN, ofSum, bo, Res.rs, mAsg, gTp, gs1, gs0, gSbA, stB, gNm, mD, fz, mB, mAs, pks, mRet, finF, resF, outsF, outI, gAdd, Mp.gSub, gMod, gDiv, gMulA, gInt, gDivmod, mSkip, mAnd, mOr, mNot, mBr, mIf, mExpr, gGt_int, gLt_int, gLe_int, gEq_int, gNe_int, Ot.bind, mCall, argV, argV1, varsR, nodupN, putO, mCh, mLen, lenR, mSet, asV, mTup, mLst, allD, mIsA, okIs, known, isTy, tyD, runF, mPar, parE, asN, mFz, mFor, mDic, r1, e', ownedAt])
theorem c1_closed_by (f : KK) (b : Int) (r : KR) (ss : List Int) (hv : valD (DKK f) (.inl b) = some (.dict (kvD (DK r)))) (hs : gSortedA [.dict (kvD (DK r))] = some (.lst (IL ss))) (hz : ss.length ≤ 1000) (v0 v1 v3 v5 : Option Vl) :
    closed_by_c1 [v0, v1, some (.own (.dct (DKK f))), v3, some (.d (.int b)), v5] = .ok (.new (.lst (PL (ss.map fun y => (b, y)))), [v0, v1, some (.own (.dct (DKK f))), v3, some (.d (.int b)), v5]) := by
  unfold closed_by_c1
  have := mLc_pure (n := 6) (it := mIt (mB gSortedA [(mIxA (mV 2) (mV 4))])) (g := gNm (outs 6 [5]) 5) (tt := mYes) (te := mTup [(mD (mV 4)), (mD (mV 5))]) (vs := [5])
    (ρ := [v0, v1, some (.own (.dct (DKK f))), v3, some (.d (.int b)), v5]) (ρ1 := [v0, v1, some (.own (.dct (DKK f))), v3, some (.d (.int b)), v5])
    (xs := IL ss) (p := fun _ => true) (h := fun x => .tuple [.int b, x]) (by simp [ioOk, Vl.owned, startE, mSeq, mIfS, mOp2, mIxA, mV, lk, mK, ixR, sq, pk, Bx.ok, Bx.x, atI, ixN, ofSum, bo, Res.rs, mAsg, gTp, gs1, gs0, gSbA, stB, gNm, mD, fz, mB, mAs, pks, mRet, finF, resF, outsF, outI, gAdd, Mp.gSub, gMod, gDiv, gMulA, gInt, gDivmod, mSkip, mAnd, mOr, mNot, mBr, mIf, mExpr, gGt_int, gLt_int, gLe_int, gEq_int, gNe_int, Ot.bind, mCall, argV, argV1, varsR, nodupN, putO, mCh, mLen, lenR, mSet, asV, mTup, mLst, allD, mIsA, okIs, known, isTy, tyD, runF, mPar, parE, asN, mFz, mIt, seqD, unK_DKK, keyOfD, hv, hs]) rfl (fun x hx => ?_) (by rw [IL_len, sizeLine_eq]; omega)
  · rw [this, filter_tt]
    congr 3
    unfold IL PL
    rw [List.map_map, List.map_map]
    rfl
  · obtain ⟨y, hy, rfl⟩ := List.mem_map.mp hx
    exact ⟨[v0, v1, some (.own (.dct (DKK f))), v3, some (.d (.int b)), some (.d (.int y))], rfl, rfl, rfl, rfl, fun _ => rfl⟩
theorem f_closed_by {w : D} {n : Nat} {qs : List (Int × Int)} (hq : Pm.InR n qs) (hn0 : 1 ≤ n) (hn : n ≤ 10) (hz : qs.length ≤ 1000) (hs : ∀ h, (succ qs h).length < 64) (v1 : Vl) (hv : LV (some v1) w qs) :
    ∃ cs : List (Int × Int), cs.Nodup ∧ (∀ x y, (x, y) ∈ cs ↔ Pm.Rch qs x y) ∧ cs.length ≤ 100 ∧ F_closed_by [.d (.int n), v1] = .ok (.new (.lst (PL cs)), [.d (.int n), .d w]) := by
  obtain ⟨f, hf, hJ, ef⟩ := f_follows hq hn0 hn hz hs v1 hv
  obtain ⟨ρ', e, cs, v4, rfl, hnd, hm, hcl⟩ := forGo_inv (g := gNm [0, 1] 4) (b := closed_by_b1)
    (fun i ρ => ∃ cs v4, ρ = [some (.d (.int n)), some (.d w), some (.own (.dct (DKK f))), some (.own (.lst (PL cs))), v4, none] ∧ cs.Nodup ∧ (∀ x y, (x, y) ∈ cs ↔ (0 ≤ x ∧ x < i ∧ Pm.Rch qs x y)) ∧ cs.length ≤ i * 10)
    (IL (upI n)) 0 [some (.d (.int n)), some (.d w), some (.own (.dct (DKK f))), some (.own (.lst (PL []))), none, none]
    ⟨[], none, rfl, .nil, fun x y => ⟨fun h => (by cases h), fun h => (by omega)⟩, by simp⟩
    fun i x ρ hx ⟨cs, v4, eρ, hnd, hm, hcl⟩ => by
      subst eρ
      rw [Nat.zero_add] at hm hcl ⊢
      have hi : i < n := by
        have := (List.getElem?_eq_some_iff.mp hx).1
        rw [IL_len, upI_len] at this
        exact this
      have ex : x = .int (i : Int) := by
        unfold IL at hx
        rw [List.getElem?_map, upI_get hi] at hx
        exact (Option.some.inj hx).symm
      subst ex
      obtain ⟨r, hr, ev⟩ := val_DKK (k := (i : Int)) (f := f) (by rw [hf, mem_upI]; omega)
      have J := hJ _ _ hr
      have hlen := J.len hq (by omega)
      obtain ⟨ss, es, pm⟩ := gSort_DK (r := r) (by omega)
      have hsl : ss.length ≤ 10 := by
        have := pm.length_eq
        unfold ks at this
        rw [List.length_map] at this
        omega
      have ec := c1_closed_by f (i : Int) r ss ev es (by omega) (some (.d (.int n))) (some (.d w)) (some (.own (.lst (PL cs)))) none
      have hl : (PL cs).length + (PL (ss.map fun y => ((i : Int), y))).length ≤ sizeLine := by
        rw [PL_len, PL_len, List.length_map, sizeLine_eq]
        have : i * 10 ≤ 100 := by omega
        omega
      have hms : ∀ y, y ∈ ss ↔ Pm.Rch qs (i : Int) y := fun y => by rw [pm.mem_iff]; exact J.fin y
      refine ⟨[some (.d (.int n)), some (.d w), some (.own (.dct (DKK f))), some (.own (.lst (PL (cs ++ ss.map fun y => ((i : Int), y))))), some (.d (.int i)), none], .next, ?_, .inl rfl, cs ++ ss.map (fun y => ((i : Int), y)), _, rfl, ?_, fun x y => ?_, ?_⟩
      · rw [show gNm [0, 1] 4 (.int (i : Int)) [some (.d (.int n)), some (.d w), some (.own (.dct (DKK f))), some (.own (.lst (PL cs))), v4, none] = .ok [some (.d (.int n)), some (.d w), some (.own (.dct (DKK f))), some (.own (.lst (PL cs))), some (.d (.int i)), none] from rfl, PL_app]
        unfold closed_by_b1
        simp [ioOk, Vl.owned, startE, mSeq, mIfS, mOp2, mIxA, mV, lk, mK, ixR, sq, pk, Bx.ok, Bx.x, atI, ixN, ofSum, bo, Res.rs, mAsg, gTp, gs1, gs0, gSbA, stB, gNm, mD, fz, mB, mAs, pks, mRet, finF, resF, outsF, outI, gAdd, Mp.gSub, gMod, gDiv, gMulA, gInt, gDivmod, mSkip, mAnd, mOr, mNot, mBr, mIf, mExpr, gGt_int, gLt_int, gLe_int, gEq_int, gNe_int, Ot.bind, mCall, argV, argV1, varsR, nodupN, putO, mCh, mLen, lenR, mSet, asV, mTup, mLst, allD, mIsA, okIs, known, isTy, tyD, runF, mPar, parE, asN, mFz, mExt, ownL, ec, extR, hl]
      · refine List.nodup_append.mpr ⟨hnd, ?_, fun a ha b hb e => ?_⟩
        · have : ss.Nodup := pm.symm.nodup J.nd
          exact List.pairwise_map.mpr (this.imp fun {a b} hab e => hab (Prod.mk.inj e).2)
        · obtain ⟨y, _, rfl⟩ := List.mem_map.mp hb
          subst e
          have := (hm (i : Int) y).mp ha
          omega
      · rw [List.mem_append, hm]
        constructor
        · rintro (⟨h1, h2, h3⟩ | h)
          · exact ⟨h1, by omega, h3⟩
          · obtain ⟨z, hz, e⟩ := List.mem_map.mp h
            cases e
            exact ⟨by omega, by omega, (hms y).mp hz⟩
        · rintro ⟨h1, h2, h3⟩
          by_cases hxi : x = (i : Int)
          · subst hxi
            exact .inr (List.mem_map.mpr ⟨y, (hms y).mpr h3, rfl⟩)
          · exact .inl ⟨h1, by omega, h3⟩
      · rw [List.length_append, List.length_map]
        omega
  rw [Nat.zero_add, IL_len, upI_len] at hm hcl
  refine ⟨cs, hnd, fun x y => ?_, by omega, ?_⟩
  · rw [hm]
    constructor
    · exact fun h => h.2.2
    · intro h
      obtain ⟨z, hz⟩ := h.from
      have := hq _ hz
      exact ⟨this.1, this.2.1, h⟩
  · have r1 : mRange rg1 [mV 0] [some (.d (.int n)), some (.d w), some (.own (.dct (DKK f))), some (.own (.lst [])), none, none] = _ := range1 (n := n) (by omega) rfl
    have e' : forGo (gNm [0, 1] 4) closed_by_b1 (IL (upI n)) [some (.d (.int n)), some (.d w), some (.own (.dct (DKK f))), some (.own (.lst [])), none, none] = _ := e
    unfold F_closed_by m_closed_by closed_by_l1
    rcases hv with ⟨hw, h | ⟨rfl, h⟩⟩ <;> (cases h; simp [ioOk, Vl.owned, startE, mSeq, mIfS, mOp2, mIxA, mV, lk, mK, ixR, sq, pk, Bx.ok, Bx.x, atI, ixN, ofSum, bo, Res.rs, mAsg, gTp, gs1, gs0, gSbA, stB, gNm, mD, fz, mB, mAs, pks, mRet, finF, resF, outsF, outI, gAdd, Mp.gSub, gMod, gDiv, gMulA, gInt, gDivmod, mSkip, mAnd, mOr, mNot, mBr, mIf, mExpr, gGt_int, gLt_int, gLe_int, gEq_int, gNe_int, Ot.bind, mCall, argV, argV1, varsR, nodupN, putO, mCh, mLen, lenR, mSet, asV, mTup, mLst, allD, mIsA, okIs, known, isTy, tyD, runF, mPar, parE, asN, mFz, mFor, ef, r1, e', ownedAt])
theorem f_with_report {n : Nat} {ps : List (Int × Int)} (h : Ordr n ps) {a b : Int} (hp : 0 ≤ a ∧ a < n ∧ 0 ≤ b ∧ b < n ∧ a ≠ b) (hn : (b, a) ∉ ps) :
    ∃ rs, Ordr n rs ∧ (∀ x y, (x, y) ∈ rs ↔ Pm.Cl ps a b x y) ∧ F_with_report [.d (O n ps), .d (pr (a, b))] = .ok (.d (O n rs), [.d (O n ps), .d (pr (a, b))]) := by
  have hlen := h.len
  have h0 := h.lo
  have h1 := h.hi
  obtain ⟨cs, nd, hm, _, ec⟩ := f_closed_by (h.pair hp) (by omega) (by omega) (by rw [List.length_append]; simp; omega) (h.succ (a, b)) (.own (.lst (PL (ps ++ [(a, b)])))) ⟨.inl rfl, .inr ⟨rfl, rfl⟩⟩
  obtain ⟨ho, hc⟩ := h.more hp hn nd hm
  refine ⟨srt cs, ho, hc, ?_⟩
  have w1 := f_want_order h
  have w2 := f_want_pair hp
  have i1 : gInA (.tuple [.int b, .int a]) (.tuple (PL ps)) = some (.d (.bool false)) := by
    have := gIn_PT ps (b, a)
    rw [decide_eq_false hn] at this
    exact this
  have hl : (PL ps).length + 1 ≤ sizeLine := by rw [PL_len, sizeLine_eq]; omega
  have fm := f_made n cs
  have eq := PLs ps a b
  unfold F_with_report m_with_report
  unfold O pr at *
  simp [ioOk, Vl.owned, startE, mSeq, mIfS, mOp2, mIxA, mV, lk, mK, ixR, sq, pk, Bx.ok, Bx.x, atI, ixN, ofSum, bo, Res.rs, mAsg, gTp, gs1, gs0, gSbA, stB, gNm, mD, fz, mB, mAs, pks, mRet, finF, resF, outsF, outI, gAdd, Mp.gSub, gMod, gDiv, gMulA, gInt, gDivmod, mSkip, mAnd, mOr, mNot, mBr, mIf, mExpr, gGt_int, gLt_int, gLe_int, gEq_int, gNe_int, Ot.bind, mCall, argV, argV1, varsR, nodupN, putO, mCh, mLen, lenR, mSet, asV, mTup, mLst, allD, mIsA, okIs, known, isTy, tyD, runF, mPar, parE, asN, mFz, w1, w2, i1, gList, hl, eq, ec, fm]
theorem f_with_report_none {n : Nat} {ps : List (Int × Int)} (h : Ordr n ps) {a b : Int} (hp : 0 ≤ a ∧ a < n ∧ 0 ≤ b ∧ b < n ∧ a ≠ b) (hn : (b, a) ∈ ps) :
    F_with_report [.d (O n ps), .d (pr (a, b))] = .ok (.d .none, [.d (O n ps), .d (pr (a, b))]) := by
  have w1 := f_want_order h
  have w2 := f_want_pair hp
  have i1 : gInA (.tuple [.int b, .int a]) (.tuple (PL ps)) = some (.d (.bool true)) := by
    have := gIn_PT ps (b, a)
    rw [decide_eq_true hn] at this
    exact this
  unfold F_with_report m_with_report
  unfold O pr at *
  simp [ioOk, Vl.owned, startE, mSeq, mIfS, mOp2, mIxA, mV, lk, mK, ixR, sq, pk, Bx.ok, Bx.x, atI, ixN, ofSum, bo, Res.rs, mAsg, gTp, gs1, gs0, gSbA, stB, gNm, mD, fz, mB, mAs, pks, mRet, finF, resF, outsF, outI, gAdd, Mp.gSub, gMod, gDiv, gMulA, gInt, gDivmod, mSkip, mAnd, mOr, mNot, mBr, mIf, mExpr, gGt_int, gLt_int, gLe_int, gEq_int, gNe_int, Ot.bind, mCall, argV, argV1, varsR, nodupN, putO, mCh, mLen, lenR, mSet, asV, mTup, mLst, allD, mIsA, okIs, known, isTy, tyD, runF, mPar, parE, asN, mFz, w1, w2, i1]
theorem f_want_many {n : Int} (h : 1 ≤ n ∧ n ≤ 10) : F_want_many [.d (.int n)] = .ok (.d .none, [.d (.int n)]) := by
  unfold F_want_many m_want_many
  simp [ioOk, Vl.owned, startE, mSeq, mIfS, mOp2, mIxA, mV, lk, mK, ixR, sq, pk, Bx.ok, Bx.x, atI, ixN, ofSum, bo, Res.rs, mAsg, gTp, gs1, gs0, gSbA, stB, gNm, mD, fz, mB, mAs, pks, mRet, finF, resF, outsF, outI, gAdd, Mp.gSub, gMod, gDiv, gMulA, gInt, gDivmod, mSkip, mAnd, mOr, mNot, mBr, mIf, mExpr, gGt_int, gLt_int, gLe_int, gEq_int, gNe_int, Ot.bind, mCall, argV, argV1, varsR, nodupN, putO, mCh, mLen, lenR, mSet, asV, mTup, mLst, allD, mIsA, okIs, known, isTy, tyD, runF, mPar, parE, asN, mFz, f_is_within, h.1, h.2]
theorem f_are_reports {n : Int} {qs : List (Int × Int)} (hq : Pm.InR n qs) (hi : Pm.Irr qs) (hz : qs.length ≤ 200) : F_are_reports_of [.d (.int n), .own (.lst (PL qs))] = .ok (.d (.bool true), [.d (.int n), .d (.list (PL qs))]) := by
  have e : are_reports_of_c1 [some (.d (.int n)), some (.own (.lst (PL qs))), none] = .ok (.new (.lst (TT (PL qs).length)), [some (.d (.int n)), some (.d (.list (PL qs))), none]) := by
    unfold are_reports_of_c1
    refine mLc_all (ρ1 := [some (.d (.int n)), some (.d (.list (PL qs))), none]) (by simp [ioOk, Vl.owned, startE, mSeq, mIfS, mOp2, mIxA, mV, lk, mK, ixR, sq, pk, Bx.ok, Bx.x, atI, ixN, ofSum, bo, Res.rs, mAsg, gTp, gs1, gs0, gSbA, stB, gNm, mD, fz, mB, mAs, pks, mRet, finF, resF, outsF, outI, gAdd, Mp.gSub, gMod, gDiv, gMulA, gInt, gDivmod, mSkip, mAnd, mOr, mNot, mBr, mIf, mExpr, gGt_int, gLt_int, gLe_int, gEq_int, gNe_int, Ot.bind, mCall, argV, argV1, varsR, nodupN, putO, mCh, mLen, lenR, mSet, asV, mTup, mLst, allD, mIsA, okIs, known, isTy, tyD, runF, mPar, parE, asN, mFz, mIt, seqD]) rfl (fun x hx => ?_) (by rw [PL_len, sizeLine_eq]; omega)
    obtain ⟨⟨c, d⟩, hq', rfl⟩ := List.mem_map.mp hx
    refine ⟨[some (.d (.int n)), some (.d (.list (PL qs))), some (.d (pr (c, d)))], rfl, rfl, rfl, ?_⟩
    have hd := f_is_pair_of n c d
    obtain ⟨i1, i2, i3, i4⟩ := hq _ hq'
    rw [decide_eq_true (p := 0 ≤ c ∧ c < n ∧ 0 ≤ d ∧ d < n ∧ c ≠ d) ⟨i1, i2, i3, i4, fun e => by subst e; exact hi _ hq'⟩] at hd
    simp [ioOk, Vl.owned, startE, mSeq, mIfS, mOp2, mIxA, mV, lk, mK, ixR, sq, pk, Bx.ok, Bx.x, atI, ixN, ofSum, bo, Res.rs, mAsg, gTp, gs1, gs0, gSbA, stB, gNm, mD, fz, mB, mAs, pks, mRet, finF, resF, outsF, outI, gAdd, Mp.gSub, gMod, gDiv, gMulA, gInt, gDivmod, mSkip, mAnd, mOr, mNot, mBr, mIf, mExpr, gGt_int, gLt_int, gLe_int, gEq_int, gNe_int, Ot.bind, mCall, argV, argV1, varsR, nodupN, putO, mCh, mLen, lenR, mSet, asV, mTup, mLst, allD, mIsA, okIs, known, isTy, tyD, runF, mPar, parE, asN, mFz, hd]
  have il : F_is_list [.own (.lst (PL qs))] = .ok (.d (.bool true), [.own (.lst (PL qs))]) := by
    unfold F_is_list m_is_list
    simp [ioOk, Vl.owned, startE, mSeq, mIfS, mOp2, mIxA, mV, lk, mK, ixR, sq, pk, Bx.ok, Bx.x, atI, ixN, ofSum, bo, Res.rs, mAsg, gTp, gs1, gs0, gSbA, stB, gNm, mD, fz, mB, mAs, pks, mRet, finF, resF, outsF, outI, gAdd, Mp.gSub, gMod, gDiv, gMulA, gInt, gDivmod, mSkip, mAnd, mOr, mNot, mBr, mIf, mExpr, gGt_int, gLt_int, gLe_int, gEq_int, gNe_int, Ot.bind, mCall, argV, argV1, varsR, nodupN, putO, mCh, mLen, lenR, mSet, asV, mTup, mLst, allD, mIsA, okIs, known, isTy, tyD, runF, mPar, parE, asN, mFz]
  have hz2 : ((PL qs).length : Int) ≤ 200 := by rw [PL_len]; omega
  unfold F_are_reports_of m_are_reports_of
  simp [ioOk, Vl.owned, startE, mSeq, mIfS, mOp2, mIxA, mV, lk, mK, ixR, sq, pk, Bx.ok, Bx.x, atI, ixN, ofSum, bo, Res.rs, mAsg, gTp, gs1, gs0, gSbA, stB, gNm, mD, fz, mB, mAs, pks, mRet, finF, resF, outsF, outI, gAdd, Mp.gSub, gMod, gDiv, gMulA, gInt, gDivmod, mSkip, mAnd, mOr, mNot, mBr, mIf, mExpr, gGt_int, gLt_int, gLe_int, gEq_int, gNe_int, Ot.bind, mCall, argV, argV1, varsR, nodupN, putO, mCh, mLen, lenR, mSet, asV, mTup, mLst, allD, mIsA, okIs, known, isTy, tyD, runF, mPar, parE, asN, mFz, il, e, gAll_TT, hz2]
theorem f_order_of {n : Nat} {ps : List (Int × Int)} (h : Ordr n ps) {a b : Int} (hp : 0 ≤ a ∧ a < n ∧ 0 ≤ b ∧ b < n ∧ a ≠ b) (hn : (b, a) ∉ ps) :
    ∃ rs v, Ordr n rs ∧ (∀ x y, (x, y) ∈ rs ↔ Pm.Cl ps a b x y) ∧ F_order_of [.d (.int n), .own (.lst (PL (ps ++ [(a, b)])))] = .ok (.d (O n rs), [.d (.int n), v]) := by
  have hlen := h.len
  have h0 := h.lo
  have h1 := h.hi
  have hl : (ps ++ [(a, b)]).length ≤ 200 := by rw [List.length_append]; simp; omega
  obtain ⟨cs, nd, hm, hcl, ec⟩ := f_closed_by (h.pair hp) (by omega) (by omega) (by omega) (h.succ (a, b)) (.d (.list (PL (ps ++ [(a, b)])))) ⟨.inl rfl, .inl rfl⟩
  obtain ⟨ho, hc⟩ := h.more hp hn nd hm
  have irr : Pm.Irr (ps ++ [(a, b)]) := fun x hx => by
    rcases List.mem_append.mp hx with hx | hx
    · exact h.irr x hx
    · have := List.mem_singleton.mp hx
      obtain ⟨h1, h2⟩ := Prod.mk.inj this
      exact hp.2.2.2.2 (h1.symm.trans h2)
  have w1 := f_want_many ⟨h0, h1⟩
  have w2 := f_are_reports (h.pair hp) irr hl
  have w3 : F_want_reports [.d (.int n), .own (.lst (PL (ps ++ [(a, b)])))] = .ok (.d .none, [.d (.int n), .d (.list (PL (ps ++ [(a, b)])))]) := by
    unfold F_want_reports m_want_reports
    simp [ioOk, Vl.owned, startE, mSeq, mIfS, mOp2, mIxA, mV, lk, mK, ixR, sq, pk, Bx.ok, Bx.x, atI, ixN, ofSum, bo, Res.rs, mAsg, gTp, gs1, gs0, gSbA, stB, gNm, mD, fz, mB, mAs, pks, mRet, finF, resF, outsF, outI, gAdd, Mp.gSub, gMod, gDiv, gMulA, gInt, gDivmod, mSkip, mAnd, mOr, mNot, mBr, mIf, mExpr, gGt_int, gLt_int, gLe_int, gEq_int, gNe_int, Ot.bind, mCall, argV, argV1, varsR, nodupN, putO, mCh, mLen, lenR, mSet, asV, mTup, mLst, allD, mIsA, okIs, known, isTy, tyD, runF, mPar, parE, asN, mFz, w1, w2]
  have c1 : order_of_c1 [some (.d (.int n)), some (.d (.list (PL (ps ++ [(a, b)])))), some (.own (.lst (PL cs))), none, none] =
      .ok (.new (.lst ((PL cs).map fun x => .bool ((unpr x).1 == (unpr x).2))), [some (.d (.int n)), some (.d (.list (PL (ps ++ [(a, b)])))), some (.d (.list (PL cs))), none, none]) := by
    unfold order_of_c1
    have := mLc_pure (n := 5) (it := mIt (mV 2)) (g := gTp 2 (gs1 (gNm (outs 5 [3, 4]) 3) (gs1 (gNm (outs 5 [3, 4]) 4) gs0))) (tt := mYes) (te := mOp2 gEq (mV 3) (mV 4)) (vs := [3, 4])
      (ρ := [some (.d (.int n)), some (.d (.list (PL (ps ++ [(a, b)])))), some (.own (.lst (PL cs))), none, none]) (ρ1 := [some (.d (.int n)), some (.d (.list (PL (ps ++ [(a, b)])))), some (.d (.list (PL cs))), none, none])
      (xs := PL cs) (p := fun _ => true) (h := fun x => .bool ((unpr x).1 == (unpr x).2)) (by simp [ioOk, Vl.owned, startE, mSeq, mIfS, mOp2, mIxA, mV, lk, mK, ixR, sq, pk, Bx.ok, Bx.x, atI, ixN, ofSum, bo, Res.rs, mAsg, gTp, gs1, gs0, gSbA, stB, gNm, mD, fz, mB, mAs, pks, mRet, finF, resF, outsF, outI, gAdd, Mp.gSub, gMod, gDiv, gMulA, gInt, gDivmod, mSkip, mAnd, mOr, mNot, mBr, mIf, mExpr, gGt_int, gLt_int, gLe_int, gEq_int, gNe_int, Ot.bind, mCall, argV, argV1, varsR, nodupN, putO, mCh, mLen, lenR, mSet, asV, mTup, mLst, allD, mIsA, okIs, known, isTy, tyD, runF, mPar, parE, asN, mFz, mIt, seqD]) rfl (fun x hx => ?_) (by rw [PL_len, sizeLine_eq]; omega)
    · rw [filter_tt] at this
      exact this
    · obtain ⟨⟨c, d⟩, hq, rfl⟩ := List.mem_map.mp hx
      exact ⟨[some (.d (.int n)), some (.d (.list (PL (ps ++ [(a, b)])))), some (.d (.list (PL cs))), some (.d (.int c)), some (.d (.int d))], rfl, rfl, rfl, rfl, fun _ => by simp [ioOk, Vl.owned, startE, mSeq, mIfS, mOp2, mIxA, mV, lk, mK, ixR, sq, pk, Bx.ok, Bx.x, atI, ixN, ofSum, bo, Res.rs, mAsg, gTp, gs1, gs0, gSbA, stB, gNm, mD, fz, mB, mAs, pks, mRet, finF, resF, outsF, outI, gAdd, Mp.gSub, gMod, gDiv, gMulA, gInt, gDivmod, mSkip, mAnd, mOr, mNot, mBr, mIf, mExpr, gGt_int, gLt_int, gLe_int, gEq_int, gNe_int, Ot.bind, mCall, argV, argV1, varsR, nodupN, putO, mCh, mLen, lenR, mSet, asV, mTup, mLst, allD, mIsA, okIs, known, isTy, tyD, runF, mPar, parE, asN, mFz, unpr_pr]⟩
  have g1 := gAny_map (PL cs) (fun x => (unpr x).1 == (unpr x).2)
  have g2 : (PL cs).any (fun x => (unpr x).1 == (unpr x).2) = false := by
    rw [List.any_eq_false]
    intro x hx
    obtain ⟨⟨c, d⟩, hq, rfl⟩ := List.mem_map.mp hx
    simp only [unpr_pr, beq_iff_eq]
    rintro rfl
    exact ho.irr c (mem_sort.mpr hq)
  rw [g2] at g1
  have fm : F_made [.d (.int n), .d (.list (PL cs))] = .ok (.d (O n (srt cs)), [.d (.int n), .d (.list (PL cs))]) := by
    unfold F_made m_made O
    simp [ioOk, Vl.owned, startE, mSeq, mIfS, mOp2, mIxA, mV, lk, mK, ixR, sq, pk, Bx.ok, Bx.x, atI, ixN, ofSum, bo, Res.rs, mAsg, gTp, gs1, gs0, gSbA, stB, gNm, mD, fz, mB, mAs, pks, mRet, finF, resF, outsF, outI, gAdd, Mp.gSub, gMod, gDiv, gMulA, gInt, gDivmod, mSkip, mAnd, mOr, mNot, mBr, mIf, mExpr, gGt_int, gLt_int, gLe_int, gEq_int, gNe_int, Ot.bind, mCall, argV, argV1, varsR, nodupN, putO, mCh, mLen, lenR, mSet, asV, mTup, mLst, allD, mIsA, okIs, known, isTy, tyD, runF, mPar, parE, asN, mFz, gSort_PL, gTuple]
  refine ⟨srt cs, .d (.list (PL (ps ++ [(a, b)]))), ho, hc, ?_⟩
  unfold F_order_of m_order_of
  simp [ioOk, Vl.owned, startE, mSeq, mIfS, mOp2, mIxA, mV, lk, mK, ixR, sq, pk, Bx.ok, Bx.x, atI, ixN, ofSum, bo, Res.rs, mAsg, gTp, gs1, gs0, gSbA, stB, gNm, mD, fz, mB, mAs, pks, mRet, finF, resF, outsF, outI, gAdd, Mp.gSub, gMod, gDiv, gMulA, gInt, gDivmod, mSkip, mAnd, mOr, mNot, mBr, mIf, mExpr, gGt_int, gLt_int, gLe_int, gEq_int, gNe_int, Ot.bind, mCall, argV, argV1, varsR, nodupN, putO, mCh, mLen, lenR, mSet, asV, mTup, mLst, allD, mIsA, okIs, known, isTy, tyD, runF, mPar, parE, asN, mFz, w3, ec, c1, g1, fm]
theorem f_are_apart (n : Int) (ps : List (Int × Int)) (x y : Int) : F_are_apart [.d (O n ps), .d (.int x), .d (.int y)] = .ok (.d (.bool (decide (Apart ps x y))), [.d (O n ps), .d (.int x), .d (.int y)]) := by
  have i1 : gNotInA (.tuple [.int x, .int y]) (.tuple (PL ps)) = some (.d (.bool (!decide ((x, y) ∈ ps)))) := gNotIn_PT ps (x, y)
  have i2 : gNotInA (.tuple [.int y, .int x]) (.tuple (PL ps)) = some (.d (.bool (!decide ((y, x) ∈ ps)))) := gNotIn_PT ps (y, x)
  unfold F_are_apart m_are_apart Apart
  unfold O
  by_cases h1 : x = y
  · subst h1
    simp [ioOk, Vl.owned, startE, mSeq, mIfS, mOp2, mIxA, mV, lk, mK, ixR, sq, pk, Bx.ok, Bx.x, atI, ixN, ofSum, bo, Res.rs, mAsg, gTp, gs1, gs0, gSbA, stB, gNm, mD, fz, mB, mAs, pks, mRet, finF, resF, outsF, outI, gAdd, Mp.gSub, gMod, gDiv, gMulA, gInt, gDivmod, mSkip, mAnd, mOr, mNot, mBr, mIf, mExpr, gGt_int, gLt_int, gLe_int, gEq_int, gNe_int, Ot.bind, mCall, argV, argV1, varsR, nodupN, putO, mCh, mLen, lenR, mSet, asV, mTup, mLst, allD, mIsA, okIs, known, isTy, tyD, runF, mPar, parE, asN, mFz, i1]
  · have hb : (x == y) = false := beq_eq_false_iff_ne.mpr h1
    by_cases h2 : (x, y) ∈ ps
    · rw [decide_eq_true h2] at i1
      simp [ioOk, Vl.owned, startE, mSeq, mIfS, mOp2, mIxA, mV, lk, mK, ixR, sq, pk, Bx.ok, Bx.x, atI, ixN, ofSum, bo, Res.rs, mAsg, gTp, gs1, gs0, gSbA, stB, gNm, mD, fz, mB, mAs, pks, mRet, finF, resF, outsF, outI, gAdd, Mp.gSub, gMod, gDiv, gMulA, gInt, gDivmod, mSkip, mAnd, mOr, mNot, mBr, mIf, mExpr, gGt_int, gLt_int, gLe_int, gEq_int, gNe_int, Ot.bind, mCall, argV, argV1, varsR, nodupN, putO, mCh, mLen, lenR, mSet, asV, mTup, mLst, allD, mIsA, okIs, known, isTy, tyD, runF, mPar, parE, asN, mFz, hb, h1, i1, h2]
    · rw [decide_eq_false h2] at i1
      by_cases h3 : (y, x) ∈ ps
      · rw [decide_eq_true h3] at i2
        simp [ioOk, Vl.owned, startE, mSeq, mIfS, mOp2, mIxA, mV, lk, mK, ixR, sq, pk, Bx.ok, Bx.x, atI, ixN, ofSum, bo, Res.rs, mAsg, gTp, gs1, gs0, gSbA, stB, gNm, mD, fz, mB, mAs, pks, mRet, finF, resF, outsF, outI, gAdd, Mp.gSub, gMod, gDiv, gMulA, gInt, gDivmod, mSkip, mAnd, mOr, mNot, mBr, mIf, mExpr, gGt_int, gLt_int, gLe_int, gEq_int, gNe_int, Ot.bind, mCall, argV, argV1, varsR, nodupN, putO, mCh, mLen, lenR, mSet, asV, mTup, mLst, allD, mIsA, okIs, known, isTy, tyD, runF, mPar, parE, asN, mFz, hb, h1, i1, i2, h2, h3]
      · rw [decide_eq_false h3] at i2
        simp [ioOk, Vl.owned, startE, mSeq, mIfS, mOp2, mIxA, mV, lk, mK, ixR, sq, pk, Bx.ok, Bx.x, atI, ixN, ofSum, bo, Res.rs, mAsg, gTp, gs1, gs0, gSbA, stB, gNm, mD, fz, mB, mAs, pks, mRet, finF, resF, outsF, outI, gAdd, Mp.gSub, gMod, gDiv, gMulA, gInt, gDivmod, mSkip, mAnd, mOr, mNot, mBr, mIf, mExpr, gGt_int, gLt_int, gLe_int, gEq_int, gNe_int, Ot.bind, mCall, argV, argV1, varsR, nodupN, putO, mCh, mLen, lenR, mSet, asV, mTup, mLst, allD, mIsA, okIs, known, isTy, tyD, runF, mPar, parE, asN, mFz, hb, h1, i1, i2, h2, h3]
theorem c1_apart {n : Nat} (hn : n ≤ 10) (ps : List (Int × Int)) (x : Int) (hx : 0 ≤ x ∧ x < n) (v1 v3 : Option Vl) : apart_pairs_c1 [some (.d (O n ps)), v1, some (.d (.int x)), v3] = .ok (.new (.lst (PL (apR ps n x))), [some (.d (O n ps)), v1, some (.d (.int x)), v3]) := by
  unfold apart_pairs_c1
  have e0 : mRange rg2 [(mOp2 gAdd (mV 2) (mK (.int 1))), (mIxA (mV 0) (mK (.int 2)))] [some (.d (O n ps)), v1, some (.d (.int x)), v3] = mRange rg2 [(mOp2 gAdd (mV 2) (mK (.int 1))), (mIxA (mV 0) (mK (.int 2)))] [some (.d (O n ps)), v1, some (.d (.int x)), v3] := rfl
  have e1 := range2 (ρ := [some (.d (O n ps)), v1, some (.d (.int x)), v3]) (m := mOp2 gAdd (mV 2) (mK (.int 1))) (m' := mIxA (mV 0) (mK (.int 1))) (a := x + 1) (b := n) (by simp [ioOk, Vl.owned, startE, mSeq, mIfS, mOp2, mIxA, mV, lk, mK, ixR, sq, pk, Bx.ok, Bx.x, atI, ixN, ofSum, bo, Res.rs, mAsg, gTp, gs1, gs0, gSbA, stB, gNm, mD, fz, mB, mAs, pks, mRet, finF, resF, outsF, outI, gAdd, Mp.gSub, gMod, gDiv, gMulA, gInt, gDivmod, mSkip, mAnd, mOr, mNot, mBr, mIf, mExpr, gGt_int, gLt_int, gLe_int, gEq_int, gNe_int, Ot.bind, mCall, argV, argV1, varsR, nodupN, putO, mCh, mLen, lenR, mSet, asV, mTup, mLst, allD, mIsA, okIs, known, isTy, tyD, runF, mPar, parE, asN, mFz]) (by unfold O; simp [ioOk, Vl.owned, startE, mSeq, mIfS, mOp2, mIxA, mV, lk, mK, ixR, sq, pk, Bx.ok, Bx.x, atI, ixN, ofSum, bo, Res.rs, mAsg, gTp, gs1, gs0, gSbA, stB, gNm, mD, fz, mB, mAs, pks, mRet, finF, resF, outsF, outI, gAdd, Mp.gSub, gMod, gDiv, gMulA, gInt, gDivmod, mSkip, mAnd, mOr, mNot, mBr, mIf, mExpr, gGt_int, gLt_int, gLe_int, gEq_int, gNe_int, Ot.bind, mCall, argV, argV1, varsR, nodupN, putO, mCh, mLen, lenR, mSet, asV, mTup, mLst, allD, mIsA, okIs, known, isTy, tyD, runF, mPar, parE, asN, mFz]) (by omega) (by omega)
  rw [intsD_F] at e1
  have := mLc_pure (n := 4) (g := gNm (outs 4 [3]) 3) (tt := mCall F_are_apart [(mV 0), (mV 2), (mV 3)]) (te := mTup [(mD (mV 2)), (mD (mV 3))]) (vs := [3]) e1 rfl
    (p := fun y => decide (Apart ps x (unI y))) (h := fun y => pr (x, unI y)) (fun y hy => ?_) (by rw [IL_len, sizeLine_eq]; unfold upF; rw [List.length_map, List.length_range]; omega)
  · rw [this]
    congr 3
    unfold apR PL IL
    rw [List.filter_map, List.map_map, List.map_map]
    rfl
  · obtain ⟨z, hz, rfl⟩ := List.mem_map.mp hy
    refine ⟨[some (.d (O n ps)), v1, some (.d (.int x)), some (.d (.int z))], rfl, rfl, ?_, rfl, fun _ => rfl⟩
    have := f_are_apart n ps x z
    simp [ioOk, Vl.owned, startE, mSeq, mIfS, mOp2, mIxA, mV, lk, mK, ixR, sq, pk, Bx.ok, Bx.x, atI, ixN, ofSum, bo, Res.rs, mAsg, gTp, gs1, gs0, gSbA, stB, gNm, mD, fz, mB, mAs, pks, mRet, finF, resF, outsF, outI, gAdd, Mp.gSub, gMod, gDiv, gMulA, gInt, gDivmod, mSkip, mAnd, mOr, mNot, mBr, mIf, mExpr, gGt_int, gLt_int, gLe_int, gEq_int, gNe_int, Ot.bind, mCall, argV, argV1, varsR, nodupN, putO, mCh, mLen, lenR, mSet, asV, mTup, mLst, allD, mIsA, okIs, known, isTy, tyD, runF, mPar, parE, asN, mFz, this, unI]
    exact decide_eq_decide.mpr Iff.rfl
theorem f_apart {n : Nat} {ps : List (Int × Int)} (h : Ordr n ps) : ∃ as : List (Int × Int), (∀ x y : Int, (x, y) ∈ as → 0 ≤ x ∧ x < n ∧ 0 ≤ y ∧ y < n ∧ Apart ps x y) ∧ F_apart [.d (O n ps)] = .ok (.d (.tuple (PL as)), [.d (O n ps)]) := by
  have hn := h.hi
  obtain ⟨ρ', e, as, v2, rfl, hm, hl⟩ := forGo_inv (g := gNm [0] 2) (b := apart_pairs_b1) (fun i ρ => ∃ (as : List (Int × Int)) (v2 : Option Vl), ρ = [some (.d (O n ps)), some (.own (.lst (PL as))), v2, none] ∧ (∀ x y : Int, (x, y) ∈ as → 0 ≤ x ∧ x < n ∧ 0 ≤ y ∧ y < n ∧ Apart ps x y) ∧ as.length ≤ i * 10)
    (IL (upI n)) 0 [some (.d (O n ps)), some (.own (.lst (PL []))), none, none] ⟨[], none, rfl, (fun x y h => by cases h), by simp⟩ fun i x ρ hx ⟨as, v2, eρ, hm, hl⟩ => by
      subst eρ
      rw [Nat.zero_add] at hl ⊢
      have hi : i < n := by
        have := (List.getElem?_eq_some_iff.mp hx).1
        rw [IL_len, upI_len] at this
        exact this
      have ex : x = .int (i : Int) := by
        unfold IL at hx
        rw [List.getElem?_map, upI_get hi] at hx
        exact (Option.some.inj hx).symm
      subst ex
      have ec := c1_apart (n := n) (by omega) ps (i : Int) (by omega) (some (.own (.lst (PL as)))) none
      have al : (apR ps n i).length ≤ 10 := by
        unfold apR
        rw [List.length_map]
        refine Nat.le_trans (List.length_filter_le _ _) ?_
        unfold upF
        rw [List.length_map, List.length_range]
        omega
      have hz : (PL as).length + (PL (apR ps n i)).length ≤ sizeLine := by
        rw [PL_len, PL_len, sizeLine_eq]
        have : i * 10 ≤ 100 := by omega
        omega
      refine ⟨[some (.d (O n ps)), some (.own (.lst (PL (as ++ apR ps n i)))), some (.d (.int i)), none], .next, ?_, .inl rfl, _, _, rfl, fun x y hxy => ?_, by rw [List.length_append]; omega⟩
      · rw [show gNm [0] 2 (.int (i : Int)) [some (.d (O n ps)), some (.own (.lst (PL as))), v2, none] = .ok [some (.d (O n ps)), some (.own (.lst (PL as))), some (.d (.int i)), none] from rfl, PL_app]
        unfold apart_pairs_b1
        simp [ioOk, Vl.owned, startE, mSeq, mIfS, mOp2, mIxA, mV, lk, mK, ixR, sq, pk, Bx.ok, Bx.x, atI, ixN, ofSum, bo, Res.rs, mAsg, gTp, gs1, gs0, gSbA, stB, gNm, mD, fz, mB, mAs, pks, mRet, finF, resF, outsF, outI, gAdd, Mp.gSub, gMod, gDiv, gMulA, gInt, gDivmod, mSkip, mAnd, mOr, mNot, mBr, mIf, mExpr, gGt_int, gLt_int, gLe_int, gEq_int, gNe_int, Ot.bind, mCall, argV, argV1, varsR, nodupN, putO, mCh, mLen, lenR, mSet, asV, mTup, mLst, allD, mIsA, okIs, known, isTy, tyD, runF, mPar, parE, asN, mFz, mExt, ownL, ec, extR, hz]
      · rcases List.mem_append.mp hxy with h | h
        · exact hm x y h
        · unfold apR at h
          obtain ⟨z, hz, e⟩ := List.mem_map.mp h
          cases e
          obtain ⟨h1, h2⟩ := List.mem_filter.mp hz
          have h3 := mem_upF.mp h1
          exact ⟨by omega, by omega, by omega, by omega, of_decide_eq_true h2⟩
  refine ⟨as, hm, ?_⟩
  have r1 : mRange rg1 [mIxA (mV 0) (mK (.int 1))] [some (.d (O n ps)), some (.own (.lst [])), none, none] = _ := range1 (n := n) (by omega) (by unfold O; simp [ioOk, Vl.owned, startE, mSeq, mIfS, mOp2, mIxA, mV, lk, mK, ixR, sq, pk, Bx.ok, Bx.x, atI, ixN, ofSum, bo, Res.rs, mAsg, gTp, gs1, gs0, gSbA, stB, gNm, mD, fz, mB, mAs, pks, mRet, finF, resF, outsF, outI, gAdd, Mp.gSub, gMod, gDiv, gMulA, gInt, gDivmod, mSkip, mAnd, mOr, mNot, mBr, mIf, mExpr, gGt_int, gLt_int, gLe_int, gEq_int, gNe_int, Ot.bind, mCall, argV, argV1, varsR, nodupN, putO, mCh, mLen, lenR, mSet, asV, mTup, mLst, allD, mIsA, okIs, known, isTy, tyD, runF, mPar, parE, asN, mFz])
  have e' : forGo (gNm [0] 2) apart_pairs_b1 (IL (upI n)) [some (.d (O n ps)), some (.own (.lst [])), none, none] = _ := e
  have fa : F_apart_pairs [.d (O n ps)] = .ok (.new (.lst (PL as)), [.d (O n ps)]) := by
    unfold F_apart_pairs m_apart_pairs apart_pairs_l1
    simp [ioOk, Vl.owned, startE, mSeq, mIfS, mOp2, mIxA, mV, lk, mK, ixR, sq, pk, Bx.ok, Bx.x, atI, ixN, ofSum, bo, Res.rs, mAsg, gTp, gs1, gs0, gSbA, stB, gNm, mD, fz, mB, mAs, pks, mRet, finF, resF, outsF, outI, gAdd, Mp.gSub, gMod, gDiv, gMulA, gInt, gDivmod, mSkip, mAnd, mOr, mNot, mBr, mIf, mExpr, gGt_int, gLt_int, gLe_int, gEq_int, gNe_int, Ot.bind, mCall, argV, argV1, varsR, nodupN, putO, mCh, mLen, lenR, mSet, asV, mTup, mLst, allD, mIsA, okIs, known, isTy, tyD, runF, mPar, parE, asN, mFz, mFor, r1, e', ownedAt]
  have w := f_want_order h
  unfold F_apart m_apart
  simp [ioOk, Vl.owned, startE, mSeq, mIfS, mOp2, mIxA, mV, lk, mK, ixR, sq, pk, Bx.ok, Bx.x, atI, ixN, ofSum, bo, Res.rs, mAsg, gTp, gs1, gs0, gSbA, stB, gNm, mD, fz, mB, mAs, pks, mRet, finF, resF, outsF, outI, gAdd, Mp.gSub, gMod, gDiv, gMulA, gInt, gDivmod, mSkip, mAnd, mOr, mNot, mBr, mIf, mExpr, gGt_int, gLt_int, gLe_int, gEq_int, gNe_int, Ot.bind, mCall, argV, argV1, varsR, nodupN, putO, mCh, mLen, lenR, mSet, asV, mTup, mLst, allD, mIsA, okIs, known, isTy, tyD, runF, mPar, parE, asN, mFz, w, fa, gTuple]
theorem b2_order {n : Nat} (hn : n ≤ 10) {w th : Int} (hw : 0 ≤ w ∧ w < 3) {bs es nm : List Int} (hb : bs.length = n) (he : es.length = n) (hm : nm.Perm (upI n)) {ps : List (Int × Int)} (hz : ps.length ≤ 1000) {i j : Nat} (hi : i < n) (hj : j < n) (a b : Int) (hp : PotOk a b) (v1 v2 v3 v12 v13 : Option Vl) :
    ∃ a' b' new, PotOk a' b' ∧ (new = [] ∨ ∃ x y : Int, new = [(x, y)] ∧ (0 ≤ x ∧ x < n ∧ 0 ≤ y ∧ y < n) ∧ Lw w bs es nm x y) ∧
    _law_order_b2 [some (.own (.lst [.int a, .int b])), v1, v2, v3, some (.d (.list (IL nm))), some (.own (.lst (PL ps))), some (.d (.int w)), some (.d (.int th)), some (.d (.list (IL bs))), some (.own (.lst (IL es))), some (.d (.int i)), some (.d (.int j)), v12, v13] =
      .ok (.next, [some (.own (.lst [.int a', .int b'])), v1, v2, v3, some (.d (.list (IL nm))), some (.own (.lst (PL (ps ++ new)))), some (.d (.int w)), some (.d (.int th)), some (.d (.list (IL bs))), some (.own (.lst (IL es))), some (.d (.int i)), some (.d (.int j)), v12, v13]) := by
  have nl : nm.length = n := by rw [hm.length_eq, upI_len]
  have hzl : (PL ps).length < sizeLine := by rw [PL_len, sizeLine_eq]; omega
  have ap : ∀ x y : Int, fAppend (PL ps) [.tuple [.int x, .int y]] = some (.none, PL (ps ++ [(x, y)])) := fun x y => by
    unfold fAppend
    simp only [hzl, if_true]
    rw [PL_app]
    rfl
  by_cases h0 : w = 0
  · subst h0
    have e1 : (IL es)[i]? = some (.int es[i]) := by unfold IL; rw [List.getElem?_map, List.getElem?_eq_getElem]; rfl
    have e2 : (IL bs)[j]? = some (.int bs[j]) := by unfold IL; rw [List.getElem?_map, List.getElem?_eq_getElem]; rfl
    have l1 : (IL es).length = n := by rw [IL_len, he]
    have l2 : (IL bs).length = n := by rw [IL_len, hb]
    have f1 : (IL es)[i]'(by omega) = .int es[i] := (List.getElem?_eq_some_iff.mp e1).2
    have f2 : (IL bs)[j]'(by omega) = .int bs[j] := (List.getElem?_eq_some_iff.mp e2).2
    by_cases h : es[i] < bs[j]
    · refine ⟨a, b, [((i : Int), (j : Int))], hp, .inr ⟨i, j, rfl, by omega, ?_⟩, ?_⟩
      · unfold Lw
        simp only [if_true]
        exact ⟨by omega, by omega, es[i], bs[j], by simp, by simp, h⟩
      · unfold _law_order_b2
        simp [ioOk, Vl.owned, startE, mSeq, mIfS, mOp2, mIxA, mV, lk, mK, ixR, sq, pk, Bx.ok, Bx.x, atI, ixN, ofSum, bo, Res.rs, mAsg, gTp, gs1, gs0, gSbA, stB, gNm, mD, fz, mB, mAs, pks, mRet, finF, resF, outsF, outI, gAdd, Mp.gSub, gMod, gDiv, gMulA, gInt, gDivmod, mSkip, mAnd, mOr, mNot, mBr, mIf, mExpr, gGt_int, gLt_int, gLe_int, gEq_int, gNe_int, Ot.bind, mCall, argV, argV1, varsR, nodupN, putO, mCh, mLen, lenR, mSet, asV, mTup, mLst, allD, mIsA, okIs, known, isTy, tyD, runF, mPar, parE, asN, mFz, l1, l2, hi, hj, f1, f2, h, mOwn, ownL, ap]
    · refine ⟨a, b, [], hp, .inl rfl, ?_⟩
      unfold _law_order_b2
      simp [ioOk, Vl.owned, startE, mSeq, mIfS, mOp2, mIxA, mV, lk, mK, ixR, sq, pk, Bx.ok, Bx.x, atI, ixN, ofSum, bo, Res.rs, mAsg, gTp, gs1, gs0, gSbA, stB, gNm, mD, fz, mB, mAs, pks, mRet, finF, resF, outsF, outI, gAdd, Mp.gSub, gMod, gDiv, gMulA, gInt, gDivmod, mSkip, mAnd, mOr, mNot, mBr, mIf, mExpr, gGt_int, gLt_int, gLe_int, gEq_int, gNe_int, Ot.bind, mCall, argV, argV1, varsR, nodupN, putO, mCh, mLen, lenR, mSet, asV, mTup, mLst, allD, mIsA, okIs, known, isTy, tyD, runF, mPar, parE, asN, mFz, l1, l2, hi, hj, f1, f2, h, mOwn, ownL, ap]
  · have hw1 : (w == 0) = false := beq_eq_false_iff_ne.mpr h0
    have hw2 : 0 < w := by omega
    by_cases hij : i < j
    · obtain ⟨d, a', b', h3, h4, h5, h6, ed⟩ := s_draw a b 6 hp.1 hp.2 (by omega)
      have l1 : (IL nm).length = n := by rw [IL_len, nl]
      have e1 : (IL nm)[i]? = some (.int nm[i]) := by unfold IL; rw [List.getElem?_map, List.getElem?_eq_getElem]; rfl
      have e2 : (IL nm)[j]? = some (.int nm[j]) := by unfold IL; rw [List.getElem?_map, List.getElem?_eq_getElem]; rfl
      have f1 : (IL nm)[i]'(by omega) = .int nm[i] := (List.getElem?_eq_some_iff.mp e1).2
      have f2 : (IL nm)[j]'(by omega) = .int nm[j] := (List.getElem?_eq_some_iff.mp e2).2
      have hij' : (i : Int) < j := by omega
      by_cases h : d < th
      · have k1 := mem_upI.mp (hm.mem_iff.mp (List.getElem_mem (l := nm) (n := i) (by omega)))
        have k2 := mem_upI.mp (hm.mem_iff.mp (List.getElem_mem (l := nm) (n := j) (by omega)))
        refine ⟨a', b', [(nm[i], nm[j])], ⟨h5, h6⟩, .inr ⟨nm[i], nm[j], rfl, ⟨k1.1, k1.2, k2.1, k2.2⟩, ?_⟩, ?_⟩
        · unfold Lw
          simp only [h0, if_false]
          exact ⟨i, j, by simp, by simp, hij⟩
        · unfold _law_order_b2
          simp [ioOk, Vl.owned, startE, mSeq, mIfS, mOp2, mIxA, mV, lk, mK, ixR, sq, pk, Bx.ok, Bx.x, atI, ixN, ofSum, bo, Res.rs, mAsg, gTp, gs1, gs0, gSbA, stB, gNm, mD, fz, mB, mAs, pks, mRet, finF, resF, outsF, outI, gAdd, Mp.gSub, gMod, gDiv, gMulA, gInt, gDivmod, mSkip, mAnd, mOr, mNot, mBr, mIf, mExpr, gGt_int, gLt_int, gLe_int, gEq_int, gNe_int, Ot.bind, mCall, argV, argV1, varsR, nodupN, putO, mCh, mLen, lenR, mSet, asV, mTup, mLst, allD, mIsA, okIs, known, isTy, tyD, runF, mPar, parE, asN, mFz, hw1, hw2, hij, ed, l1, hi, hj, f1, f2, h, mOwn, ownL, ap]
      · refine ⟨a', b', [], ⟨h5, h6⟩, .inl rfl, ?_⟩
        unfold _law_order_b2
        simp [ioOk, Vl.owned, startE, mSeq, mIfS, mOp2, mIxA, mV, lk, mK, ixR, sq, pk, Bx.ok, Bx.x, atI, ixN, ofSum, bo, Res.rs, mAsg, gTp, gs1, gs0, gSbA, stB, gNm, mD, fz, mB, mAs, pks, mRet, finF, resF, outsF, outI, gAdd, Mp.gSub, gMod, gDiv, gMulA, gInt, gDivmod, mSkip, mAnd, mOr, mNot, mBr, mIf, mExpr, gGt_int, gLt_int, gLe_int, gEq_int, gNe_int, Ot.bind, mCall, argV, argV1, varsR, nodupN, putO, mCh, mLen, lenR, mSet, asV, mTup, mLst, allD, mIsA, okIs, known, isTy, tyD, runF, mPar, parE, asN, mFz, hw1, hw2, hij, ed, h]
    · refine ⟨a, b, [], hp, .inl rfl, ?_⟩
      unfold _law_order_b2
      simp [ioOk, Vl.owned, startE, mSeq, mIfS, mOp2, mIxA, mV, lk, mK, ixR, sq, pk, Bx.ok, Bx.x, atI, ixN, ofSum, bo, Res.rs, mAsg, gTp, gs1, gs0, gSbA, stB, gNm, mD, fz, mB, mAs, pks, mRet, finF, resF, outsF, outI, gAdd, Mp.gSub, gMod, gDiv, gMulA, gInt, gDivmod, mSkip, mAnd, mOr, mNot, mBr, mIf, mExpr, gGt_int, gLt_int, gLe_int, gEq_int, gNe_int, Ot.bind, mCall, argV, argV1, varsR, nodupN, putO, mCh, mLen, lenR, mSet, asV, mTup, mLst, allD, mIsA, okIs, known, isTy, tyD, runF, mPar, parE, asN, mFz, hw1, hw2, hij]
theorem l2_order {n : Nat} (hn : n ≤ 10) {most w th : Int} (hw : 0 ≤ w ∧ w < 3) {bs es nm : List Int} (hb : bs.length = n) (he : es.length = n) (hm : nm.Perm (upI n)) {ps : List (Int × Int)} (hg : Gd n (Lw w bs es nm) ps) {i : Nat} (hz : ps.length ≤ i * 10) (hi : i < n) (a b : Int) (hp : PotOk a b) (v3 v11 : Option Vl) :
    ∃ a' b' ps' v11', PotOk a' b' ∧ Gd n (Lw w bs es nm) ps' ∧ ps'.length ≤ (i + 1) * 10 ∧ _law_order_l2 (OE a b most n v3 nm ps w th bs es (some (.d (.int i))) v11) = .ok (.next, OE a' b' most n v3 nm ps' w th bs es (some (.d (.int i))) v11') := by
  obtain ⟨ρ', e, a', b', ps', v11', rfl, hp', hg', hl'⟩ := forGo_inv (g := gNm [0, 1] 11) (b := _law_order_b2) (fun j ρ => ∃ a b ps v11, ρ = OE a b most n v3 nm ps w th bs es (some (.d (.int i))) v11 ∧ PotOk a b ∧ Gd n (Lw w bs es nm) ps ∧ ps.length ≤ i * 10 + j)
    (IL (upI n)) 0 (OE a b most n v3 nm ps w th bs es (some (.d (.int i))) v11) ⟨a, b, ps, v11, rfl, hp, hg, hz⟩ fun j x ρ hx ⟨a, b, ps, v11, eρ, hp, hg, hl⟩ => by
      subst eρ
      rw [Nat.zero_add] at hl ⊢
      obtain ⟨hj, rfl⟩ := upI_at hx
      obtain ⟨a', b', new, hp', hnew, e⟩ := b2_order hn (th := th) hw hb he hm (ps := ps) (by have : i * 10 ≤ 100 := (by omega); omega) hi hj a b hp (some (.d (.int most))) (some (.d (.int n))) v3 none none
      refine ⟨OE a' b' most n v3 nm (ps ++ new) w th bs es (some (.d (.int i))) (some (.d (.int j))), .next, ?_, .inl rfl, a', b', ps ++ new, _, rfl, hp', ?_, ?_⟩
      · exact e
      · intro x y h
        rcases List.mem_append.mp h with h | h
        · exact hg x y h
        · rcases hnew with rfl | ⟨u, v, rfl, h1, h2⟩
          · cases h
          · cases List.mem_singleton.mp h
            exact ⟨h1, h2⟩
      · rw [List.length_append]
        rcases hnew with rfl | ⟨u, v, rfl, h1, h2⟩ <;> simp <;> omega
  rw [Nat.zero_add, IL_len, upI_len] at hl'
  refine ⟨a', b', ps', v11', hp', hg', by omega, ?_⟩
  have r1 : mRange rg1 [mV 2] (OE a b most n v3 nm ps w th bs es (some (.d (.int i))) v11) = _ := range1 (n := n) (by omega) rfl
  unfold _law_order_l2 mFor
  rw [r1]
  simp only [bind_ok]
  exact e
theorem l3_order {n : Nat} (hn : n ≤ 10) {most w th : Int} (hw : 0 ≤ w ∧ w < 3) {bs es nm : List Int} (hb : bs.length = n) (he : es.length = n) (hm : nm.Perm (upI n)) (a b : Int) (hp : PotOk a b) (v3 v10 v11 : Option Vl) :
    ∃ a' b' ps' v10' v11', PotOk a' b' ∧ Gd n (Lw w bs es nm) ps' ∧ _law_order_l3 (OE a b most n v3 nm [] w th bs es v10 v11) = .ok (.next, OE a' b' most n v3 nm ps' w th bs es v10' v11') := by
  obtain ⟨ρ', e, a', b', ps', v10', v11', rfl, hp', hg', hl'⟩ := forGo_inv (g := gNm [0, 1] 10) (b := _law_order_b3) (fun i ρ => ∃ a b ps v10 v11, ρ = OE a b most n v3 nm ps w th bs es v10 v11 ∧ PotOk a b ∧ Gd n (Lw w bs es nm) ps ∧ ps.length ≤ i * 10)
    (IL (upI n)) 0 (OE a b most n v3 nm [] w th bs es v10 v11) ⟨a, b, [], v10, v11, rfl, hp, (fun x y h => by cases h), by simp⟩ fun i x ρ hx ⟨a, b, ps, v10, v11, eρ, hp, hg, hl⟩ => by
      subst eρ
      rw [Nat.zero_add] at hl ⊢
      obtain ⟨hi, rfl⟩ := upI_at hx
      obtain ⟨a', b', ps', v11', hp', hg', hl', e⟩ := l2_order hn (most := most) (th := th) hw hb he hm hg hl hi a b hp v3 v11
      exact ⟨_, .next, e, .inl rfl, a', b', ps', _, _, rfl, hp', hg', hl'⟩
  refine ⟨a', b', ps', v10', v11', hp', hg', ?_⟩
  have r1 : mRange rg1 [mV 2] (OE a b most n v3 nm [] w th bs es v10 v11) = _ := range1 (n := n) (by omega) rfl
  unfold _law_order_l3 mFor
  rw [r1]
  simp only [bind_ok]
  exact e
theorem q_order (most : Int) (hmost : 1 ≤ most ∧ most ≤ 10) (a b : Int) (hp : PotOk a b) : ∃ (a' b' : Int) (n : Nat) (ps : List (Int × Int)), PotOk a' b' ∧ 1 ≤ n ∧ (n : Int) ≤ most ∧ Ordr (n : Nat) ps ∧
    F__law_order [.own (.lst [.int a, .int b]), .d (.int most)] = .ok (.d (O n ps), [.own (.lst [.int a', .int b']), .d (.int most)]) := by
  obtain ⟨d, a1, b1, d0, d1, p1, p1', e1⟩ := s_draw a b most hp.1 hp.2 (by omega)
  obtain ⟨n, hn⟩ : ∃ n : Nat, (n : Int) = 1 + d := ⟨(1 + d).toNat, by omega⟩
  obtain ⟨a2, b2, nm, p2, pm, e2⟩ := q_draws 100000 (upI n) (by rw [upI_len]; omega) (by rw [upI_len]; omega) (some (.d (.int most))) (some (.d (.int n))) (some (.own (.lst []))) none none none none none none none none a1 b1 ⟨p1, p1'⟩
  obtain ⟨w, a3, b3, w0, w1, p3, p3', e3⟩ := s_draw a2 b2 3 p2.1 p2.2 (by omega)
  obtain ⟨th, a4, b4, t0, t1, p4, p4', e4⟩ := s_draw a3 b3 4 p3 p3' (by omega)
  have nl : nm.length = n := by rw [pm.length_eq, upI_len]
  obtain ⟨a5, b5, bs, p5, bl, hb, e5⟩ := q_begins nm (by omega) (some (.d (.int most))) (some (.d (.int n))) (some (.own (.lst []))) (some (.own (.lst []))) (some (.d (.int w))) (some (.d (.int (1 + th)))) none none none none none a4 b4 ⟨p4, p4'⟩
  obtain ⟨a6, b6, es, p6, el, hes, e6⟩ := q_endsGo bs (by omega) (some (.d (.int most))) (some (.d (.int n))) (some (.own (.lst []))) (some (.d (.list (IL nm)))) (some (.own (.lst []))) (some (.d (.int w))) (some (.d (.int (1 + th)))) none none none none a5 b5 p5 hb
  obtain ⟨a7, b7, ps, v10, v11, p7, hg, e7⟩ := l3_order (n := n) (by omega) (most := most) (w := w) (th := 1 + th) ⟨w0, w1⟩ (bl.trans nl) (el.trans (bl.trans nl)) pm a6 b6 p6 (some (.own (.lst []))) none none
  have str := Lw_str (w := w) (nm := nm) hes el (pm.symm.nodup (by
      unfold upI
      exact List.pairwise_map.mpr (List.nodup_range.imp fun {a b} hab e => hab (by omega))))
  have e8 := q_closed str n (by omega) ps hg
  refine ⟨a7, b7, n, closeR n (srtP ps), p7, by omega, by omega, close_ordr str (by omega) (fun q hq => (hg q.1 q.2 hq).1) fun x y h => (hg x y h).2, ?_⟩
  have lr : lrOk (n : Int) = true := by unfold lrOk; simp; omega
  have k5 : _law_order_c1 [some (.own (.lst [.int a4, .int b4])), some (.d (.int most)), some (.d (.int n)), some (.own (.lst [])), some (.own (.lst (IL nm))), some (.own (.lst [])), some (.d (.int w)), some (.d (.int (1 + th))), none, none, none, none, none, none] = _ := e5
  have k6 : _law_order_c2 [some (.own (.lst [.int a5, .int b5])), some (.d (.int most)), some (.d (.int n)), some (.own (.lst [])), some (.d (.list (IL nm))), some (.own (.lst [])), some (.d (.int w)), some (.d (.int (1 + th))), some (.own (.lst (IL bs))), none, none, none, none, none] =
      .ok (.new (.lst (IL es)), [some (.own (.lst [.int a6, .int b6])), some (.d (.int most)), some (.d (.int n)), some (.own (.lst [])), some (.d (.list (IL nm))), some (.own (.lst [])), some (.d (.int w)), some (.d (.int (1 + th))), some (.d (.list (IL bs))), none, none, none, none, none]) := by
    unfold _law_order_c2 mLc
    have hi : mIt (mV 8) [some (.own (.lst [.int a5, .int b5])), some (.d (.int most)), some (.d (.int n)), some (.own (.lst [])), some (.d (.list (IL nm))), some (.own (.lst [])), some (.d (.int w)), some (.d (.int (1 + th))), some (.own (.lst (IL bs))), none, none, none, none, none] =
      .ok (IL bs, [some (.own (.lst [.int a5, .int b5])), some (.d (.int most)), some (.d (.int n)), some (.own (.lst [])), some (.d (.list (IL nm))), some (.own (.lst [])), some (.d (.int w)), some (.d (.int (1 + th))), some (.d (.list (IL bs))), none, none, none, none, none]) := by simp [ioOk, Vl.owned, startE, mSeq, mIfS, mOp2, mIxA, mV, lk, mK, ixR, sq, pk, Bx.ok, Bx.x, atI, ixN, ofSum, bo, Res.rs, mAsg, gTp, gs1, gs0, gSbA, stB, gNm, mD, fz, mB, mAs, pks, mRet, finF, resF, outsF, outI, gAdd, Mp.gSub, gMod, gDiv, gMulA, gInt, gDivmod, mSkip, mAnd, mOr, mNot, mBr, mIf, mExpr, gGt_int, gLt_int, gLe_int, gEq_int, gNe_int, Ot.bind, mCall, argV, argV1, varsR, nodupN, putO, mCh, mLen, lenR, mSet, asV, mTup, mLst, allD, mIsA, okIs, known, isTy, tyD, runF, mPar, parE, asN, mFz, mIt, seqD]
    rw [hi]
    simp only [bind_ok]
    rw [if_pos (by rfl)]
    show ((lcGo 14 _ _ _ [13] (IL bs) [some (.own (.lst [.int a5, .int b5])), some (.d (.int most)), some (.d (.int n)), some (.own (.lst [])), some (.d (.list (IL nm))), some (.own (.lst [])), some (.d (.int w)), some (.d (.int (1 + th))), some (.d (.list (IL bs))), none, none, none, none, none] []).nx.bind _) = _
    unfold PotV at e6
    rw [e6]
    rfl
  have k2 : _law_order_l1 [some (.own (.lst [.int a1, .int b1])), some (.d (.int most)), some (.d (.int n)), some (.own (.lst (IL (upI n)))), some (.own (.lst [])), some (.own (.lst [])), none, none, none, none, none, none, none, none] = _ := e2
  unfold OE at e7
  have k7 : _law_order_l3 [some (.own (.lst [.int a6, .int b6])), some (.d (.int most)), some (.d (.int n)), some (.own (.lst [])), some (.d (.list (IL nm))), some (.own (.lst [])), some (.d (.int w)), some (.d (.int (1 + th))), some (.d (.list (IL bs))), some (.own (.lst (IL es))), none, none, none, none] = _ := e7
  unfold PotV at k2 k5
  have il0 : IL [] = [] := rfl
  unfold F__law_order m__law_order O
  simp [ioOk, Vl.owned, startE, mSeq, mIfS, mOp2, mIxA, mV, lk, mK, ixR, sq, pk, Bx.ok, Bx.x, atI, ixN, ofSum, bo, Res.rs, mAsg, gTp, gs1, gs0, gSbA, stB, gNm, mD, fz, mB, mAs, pks, mRet, finF, resF, outsF, outI, gAdd, Mp.gSub, gMod, gDiv, gMulA, gInt, gDivmod, mSkip, mAnd, mOr, mNot, mBr, mIf, mExpr, gGt_int, gLt_int, gLe_int, gEq_int, gNe_int, Ot.bind, mCall, argV, argV1, varsR, nodupN, putO, mCh, mLen, lenR, mSet, asV, mTup, mLst, allD, mIsA, okIs, known, isTy, tyD, runF, mPar, parE, asN, mFz, e1, ← hn, mLR1, lr, intsD_up, k2, il0, e3, e4, k5, k6, k7, e8]
end My
set_option maxHeartbeats 4000000
namespace My
open PySem PySem.Spec PyProof.Rows L2 Mp RZ
/-! ### turned about -/
def Tb (ps : List (Int × Int)) : List (Int × Int) := ps.map fun q => (q.2, q.1)
theorem mem_Tb {ps : List (Int × Int)} {x y : Int} : (x, y) ∈ Tb ps ↔ (y, x) ∈ ps := by
  unfold Tb
  rw [List.mem_map]
  constructor
  · rintro ⟨⟨a, b⟩, h, e⟩
    cases e
    exact h
  · exact fun h => ⟨(y, x), h, rfl⟩
theorem Tb_nodup {ps : List (Int × Int)} (h : ps.Nodup) : (Tb ps).Nodup := List.pairwise_map.mpr (h.imp fun {a b} hab e => hab (Prod.ext (Prod.mk.inj e).2 (Prod.mk.inj e).1))
theorem Ordr.turn {n : Int} {ps : List (Int × Int)} (h : Ordr n ps) : Ordr n (srt (Tb ps)) :=
  ⟨h.lo, h.hi, fun q hq => by have := h.inr (q.2, q.1) (mem_Tb.mp (mem_sort.mp hq)); exact ⟨this.2.2.1, this.2.2.2, this.1, this.2.1⟩, sort_rise (Tb_nodup (rise_nodup h.rise)), fun x hx => h.irr x (mem_Tb.mp (mem_sort.mp hx)),
    fun a b c h1 h2 => mem_sort.mpr (mem_Tb.mpr (h.tr _ _ _ (mem_Tb.mp (mem_sort.mp h2)) (mem_Tb.mp (mem_sort.mp h1))))⟩
theorem turn2 {n : Int} {ps : List (Int × Int)} (h : Ordr n ps) : srt (Tb (srt (Tb ps))) = ps := rise_eq (h.turn.turn.rise) h.rise fun q => by
  rw [show q = (q.1, q.2) from rfl, mem_sort, mem_Tb, mem_sort, mem_Tb]
theorem ordr_uniq {n : Int} {ps qs : List (Int × Int)} (h : Ordr n ps) (h' : Ordr n qs) (e : ∀ x y, (x, y) ∈ ps ↔ (x, y) ∈ qs) : ps = qs := rise_eq h.rise h'.rise fun q => e q.1 q.2
/-! ### lists of pairs put together -/
theorem PL_map (ps : List (Int × Int)) (f : Int × Int → Int × Int) : (PL ps).map (fun x => pr (f (unpr x))) = PL (ps.map f) := by
  have := PL_fm ps (fun _ => true) (fun q => pr (f q))
  rw [List.filter_eq_self.mpr (fun _ _ => rfl), List.filter_eq_self.mpr (fun _ _ => rfl)] at this
  rw [this]
  unfold PL
  rw [List.map_map]
  rfl
/-- a comprehension over pairs without a test -/
theorem mLc_prs {n : Nat} {it : MI} {g : MT} {te : M} {vs : List Nat} {ρ ρ1 : Mp.Env} {ps : List (Int × Int)} (f : Int × Int → Int × Int) (hi : it ρ = .ok (PL ps, ρ1)) (hn : ρ1.length = n)
    (hx : ∀ q ∈ ps, ∃ A1, g (pr q) (wipeE ρ1 vs) = .ok A1 ∧ A1.length = n ∧ wipeE A1 vs = wipeE ρ1 vs ∧ mD te A1 = .ok (.d (pr (f q)), A1)) (hz : ps.length ≤ 100000) :
    mLc n it g mYes te vs ρ = .ok (.new (.lst (PL (ps.map f))), ρ1) := by
  have := mLc_pure (p := fun _ => true) (h := fun x => pr (f (unpr x))) (tt := mYes) (te := te) hi hn (fun x h => by
    obtain ⟨q, hq, rfl⟩ := List.mem_map.mp h
    obtain ⟨A1, h1, h2, h3, h4⟩ := hx q hq
    exact ⟨A1, h1, h2, rfl, h3, fun _ => h4⟩) (by rw [PL_len, sizeLine_eq]; omega)
  rw [filter_tt, PL_map] at this
  exact this
theorem f_turned {n : Int} {ps : List (Int × Int)} (h : Ordr n ps) : F_turned_about [.d (O n ps)] = .ok (.d (O n (srt (Tb ps))), [.d (O n ps)]) := by
  have hl := h.len
  have c1 : turned_about_c1 [some (.d (O n ps)), none, none] = .ok (.new (.lst (PL (Tb ps))), [some (.d (O n ps)), none, none]) := by
    unfold turned_about_c1
    refine mLc_prs (ρ1 := [some (.d (O n ps)), none, none]) (fun q => (q.2, q.1)) (by unfold O; simp [ioOk, Vl.owned, startE, mSeq, mIfS, mOp2, mIxA, mV, lk, mK, ixR, sq, pk, Bx.ok, Bx.x, atI, ixN, ofSum, bo, Res.rs, mAsg, gTp, gs1, gs0, gSbA, stB, gNm, mD, fz, mB, mAs, pks, mRet, finF, resF, outsF, outI, gAdd, Mp.gSub, gMod, gDiv, gMulA, gInt, gDivmod, mSkip, mAnd, mOr, mNot, mBr, mIf, mExpr, gGt_int, gLt_int, gLe_int, gEq_int, gNe_int, Ot.bind, mCall, argV, argV1, varsR, nodupN, putO, mCh, mLen, lenR, mSet, asV, mTup, mLst, allD, mIsA, okIs, known, isTy, tyD, runF, mPar, parE, asN, mFz, mIt, seqD]) rfl (fun q hq => ⟨[some (.d (O n ps)), some (.d (.int q.1)), some (.d (.int q.2))], rfl, rfl, rfl, rfl⟩) (by omega)
  have w1 := f_want_order h
  have fm := f_made n (Tb ps)
  unfold F_turned_about m_turned_about
  unfold O at *
  simp [ioOk, Vl.owned, startE, mSeq, mIfS, mOp2, mIxA, mV, lk, mK, ixR, sq, pk, Bx.ok, Bx.x, atI, ixN, ofSum, bo, Res.rs, mAsg, gTp, gs1, gs0, gSbA, stB, gNm, mD, fz, mB, mAs, pks, mRet, finF, resF, outsF, outI, gAdd, Mp.gSub, gMod, gDiv, gMulA, gInt, gDivmod, mSkip, mAnd, mOr, mNot, mBr, mIf, mExpr, gGt_int, gLt_int, gLe_int, gEq_int, gNe_int, Ot.bind, mCall, argV, argV1, varsR, nodupN, putO, mCh, mLen, lenR, mSet, asV, mTup, mLst, allD, mIsA, okIs, known, isTy, tyD, runF, mPar, parE, asN, mFz, w1, c1, fm]
/-! ### neighbours -/
def nbT (n : Nat) (ps : List (Int × Int)) (q : Int × Int) : Bool := (upI n).any fun c => decide ((q.1, c) ∈ ps) && decide ((c, q.2) ∈ ps)
def nbR (n : Nat) (ps : List (Int × Int)) : List (Int × Int) := ps.filter fun q => !nbT n ps q
theorem c1_nb {n : Nat} (hn : n ≤ 10) (ps : List (Int × Int)) (v1 v4 : Option Vl) (a b : Int) : neighbours_of_c1 [some (.d (O n ps)), v1, some (.d (.int a)), some (.d (.int b)), v4] =
    .ok (.new (.lst ((IL (upI n)).map fun x => .bool (decide ((a, unI x) ∈ ps) && decide ((unI x, b) ∈ ps)))), [some (.d (O n ps)), v1, some (.d (.int a)), some (.d (.int b)), v4]) := by
  have r1 : mRange rg1 [mIxA (mV 0) (mK (.int 1))] [some (.d (O n ps)), v1, some (.d (.int a)), some (.d (.int b)), v4] = _ := range1 (n := n) (by omega) (by unfold O; simp [ioOk, Vl.owned, startE, mSeq, mIfS, mOp2, mIxA, mV, lk, mK, ixR, sq, pk, Bx.ok, Bx.x, atI, ixN, ofSum, bo, Res.rs, mAsg, gTp, gs1, gs0, gSbA, stB, gNm, mD, fz, mB, mAs, pks, mRet, finF, resF, outsF, outI, gAdd, Mp.gSub, gMod, gDiv, gMulA, gInt, gDivmod, mSkip, mAnd, mOr, mNot, mBr, mIf, mExpr, gGt_int, gLt_int, gLe_int, gEq_int, gNe_int, Ot.bind, mCall, argV, argV1, varsR, nodupN, putO, mCh, mLen, lenR, mSet, asV, mTup, mLst, allD, mIsA, okIs, known, isTy, tyD, runF, mPar, parE, asN, mFz])
  unfold neighbours_of_c1
  have := mLc_pure (n := 5) (g := gNm (outs 5 [4]) 4) (tt := mYes) (te := mAnd (mOp2 gInA (mTup [(mD (mV 2)), (mD (mV 4))]) (mIxA (mV 0) (mK (.int 2)))) (mOp2 gInA (mTup [(mD (mV 4)), (mD (mV 3))]) (mIxA (mV 0) (mK (.int 2))))) (vs := [4]) r1 rfl
    (p := fun _ => true) (h := fun x => .bool (decide ((a, unI x) ∈ ps) && decide ((unI x, b) ∈ ps))) (fun y hy => ?_) (by rw [IL_len, upI_len, sizeLine_eq]; omega)
  · rw [filter_tt] at this
    exact this
  · obtain ⟨z, hz, rfl⟩ := List.mem_map.mp hy
    refine ⟨[some (.d (O n ps)), v1, some (.d (.int a)), some (.d (.int b)), some (.d (.int z))], rfl, rfl, rfl, rfl, fun _ => ?_⟩
    have i1 : gInA (.tuple [.int a, .int z]) (.tuple (PL ps)) = some (.d (.bool (decide ((a, z) ∈ ps)))) := gIn_PT ps (a, z)
    have i2 : gInA (.tuple [.int z, .int b]) (.tuple (PL ps)) = some (.d (.bool (decide ((z, b) ∈ ps)))) := gIn_PT ps (z, b)
    show _ = Ot.ok (Rs.d (.bool (decide ((a, z) ∈ ps) && decide ((z, b) ∈ ps))), _)
    unfold O
    by_cases h : (a, z) ∈ ps
    · rw [decide_eq_true h] at i1 ⊢
      by_cases h2 : (z, b) ∈ ps
      · rw [decide_eq_true h2] at i2 ⊢
        simp [ioOk, Vl.owned, startE, mSeq, mIfS, mOp2, mIxA, mV, lk, mK, ixR, sq, pk, Bx.ok, Bx.x, atI, ixN, ofSum, bo, Res.rs, mAsg, gTp, gs1, gs0, gSbA, stB, gNm, mD, fz, mB, mAs, pks, mRet, finF, resF, outsF, outI, gAdd, Mp.gSub, gMod, gDiv, gMulA, gInt, gDivmod, mSkip, mAnd, mOr, mNot, mBr, mIf, mExpr, gGt_int, gLt_int, gLe_int, gEq_int, gNe_int, Ot.bind, mCall, argV, argV1, varsR, nodupN, putO, mCh, mLen, lenR, mSet, asV, mTup, mLst, allD, mIsA, okIs, known, isTy, tyD, runF, mPar, parE, asN, mFz, i1, i2]
      · rw [decide_eq_false h2] at i2 ⊢
        simp [ioOk, Vl.owned, startE, mSeq, mIfS, mOp2, mIxA, mV, lk, mK, ixR, sq, pk, Bx.ok, Bx.x, atI, ixN, ofSum, bo, Res.rs, mAsg, gTp, gs1, gs0, gSbA, stB, gNm, mD, fz, mB, mAs, pks, mRet, finF, resF, outsF, outI, gAdd, Mp.gSub, gMod, gDiv, gMulA, gInt, gDivmod, mSkip, mAnd, mOr, mNot, mBr, mIf, mExpr, gGt_int, gLt_int, gLe_int, gEq_int, gNe_int, Ot.bind, mCall, argV, argV1, varsR, nodupN, putO, mCh, mLen, lenR, mSet, asV, mTup, mLst, allD, mIsA, okIs, known, isTy, tyD, runF, mPar, parE, asN, mFz, i1, i2]
    · rw [decide_eq_false h] at i1 ⊢
      simp [ioOk, Vl.owned, startE, mSeq, mIfS, mOp2, mIxA, mV, lk, mK, ixR, sq, pk, Bx.ok, Bx.x, atI, ixN, ofSum, bo, Res.rs, mAsg, gTp, gs1, gs0, gSbA, stB, gNm, mD, fz, mB, mAs, pks, mRet, finF, resF, outsF, outI, gAdd, Mp.gSub, gMod, gDiv, gMulA, gInt, gDivmod, mSkip, mAnd, mOr, mNot, mBr, mIf, mExpr, gGt_int, gLt_int, gLe_int, gEq_int, gNe_int, Ot.bind, mCall, argV, argV1, varsR, nodupN, putO, mCh, mLen, lenR, mSet, asV, mTup, mLst, allD, mIsA, okIs, known, isTy, tyD, runF, mPar, parE, asN, mFz, i1]
theorem any_IL (ns : List Int) (p : Int → Bool) : ((IL ns).any fun x => p (unI x)) = ns.any p := by
  unfold IL
  rw [List.any_map]
  rfl
theorem f_neighbours {n : Nat} {ps : List (Int × Int)} (h : Ordr n ps) : F_neighbours [.d (O n ps)] = .ok (.d (.tuple (PL (nbR n ps))), [.d (O n ps)]) := by
  have hn := h.hi
  have hl := h.len
  obtain ⟨ρ', e, v2, v3, rfl⟩ := forGo_inv (g := gTp 2 (gs1 (gNm [0] 2) (gs1 (gNm [0] 3) gs0))) (b := neighbours_of_b1) (fun i ρ => ∃ v2 v3, ρ = [some (.d (O n ps)), some (.own (.lst (PL ((ps.take i).filter fun q => !nbT n ps q)))), v2, v3, none])
    (PL ps) 0 [some (.d (O n ps)), some (.own (.lst (PL []))), none, none, none] ⟨none, none, rfl⟩ fun i x ρ hx ⟨v2, v3, eρ⟩ => by
      subst eρ
      rw [Nat.zero_add]
      unfold PL at hx
      rw [List.getElem?_map] at hx
      obtain ⟨⟨a, b⟩, hq, rfl⟩ := Option.map_eq_some_iff.mp hx
      have ec := c1_nb (n := n) (by omega) ps (some (.own (.lst (PL ((ps.take i).filter fun q => !nbT n ps q))))) none a b
      have ga := gAny_map (IL (upI n)) (fun x => decide ((a, unI x) ∈ ps) && decide ((unI x, b) ∈ ps))
      rw [any_IL (upI n) (fun c => decide ((a, c) ∈ ps) && decide ((c, b) ∈ ps))] at ga
      have ga' : gAny [.list ((IL (upI n)).map fun x => .bool (decide ((a, unI x) ∈ ps) && decide ((unI x, b) ∈ ps)))] = some (.d (.bool (nbT n ps (a, b)))) := ga
      generalize ((IL (upI n)).map fun x => PyData.bool (decide ((a, unI x) ∈ ps) && decide ((unI x, b) ∈ ps))) = Z at ec ga'
      have hzl : ((ps.take i).filter fun q => !nbT n ps q).length ≤ 100 := Nat.le_trans (List.length_filter_le _ _) (by rw [List.length_take]; omega)
      have ap : fAppend (PL ((ps.take i).filter fun q => !nbT n ps q)) [.tuple [.int a, .int b]] = some (.none, PL (((ps.take i).filter fun q => !nbT n ps q) ++ [(a, b)])) := by
        unfold fAppend
        have : (PL ((ps.take i).filter fun q => !nbT n ps q)).length < sizeLine := by rw [PL_len, sizeLine_eq]; omega
        simp only [this, if_true]
        rw [PL_app]
        rfl
      have et : (ps.take (i + 1)).filter (fun q => !nbT n ps q) = ((ps.take i).filter fun q => !nbT n ps q) ++ (if nbT n ps (a, b) then [] else [(a, b)]) := by
        rw [take_snoc hq, List.filter_append]
        congr 1
        cases hb : nbT n ps (a, b) <;> simp [List.filter, hb]
      refine ⟨[some (.d (O n ps)), some (.own (.lst (PL ((ps.take (i + 1)).filter fun q => !nbT n ps q)))), some (.d (.int a)), some (.d (.int b)), none], .next, ?_, .inl rfl, _, _, rfl⟩
      rw [show gTp 2 (gs1 (gNm [0] 2) (gs1 (gNm [0] 3) gs0)) (pr (a, b)) [some (.d (O n ps)), some (.own (.lst (PL ((ps.take i).filter fun q => !nbT n ps q)))), v2, v3, none] = .ok [some (.d (O n ps)), some (.own (.lst (PL ((ps.take i).filter fun q => !nbT n ps q)))), some (.d (.int a)), some (.d (.int b)), none] from rfl, et]
      generalize ((ps.take i).filter fun q => !nbT n ps q) = Y at *
      unfold neighbours_of_b1
      cases hb : nbT n ps (a, b)
      · rw [hb] at ga'
        simp [ioOk, Vl.owned, startE, mSeq, mIfS, mOp2, mIxA, mV, lk, mK, ixR, sq, pk, Bx.ok, Bx.x, atI, ixN, ofSum, bo, Res.rs, mAsg, gTp, gs1, gs0, gSbA, stB, gNm, mD, fz, mB, mAs, pks, mRet, finF, resF, outsF, outI, gAdd, Mp.gSub, gMod, gDiv, gMulA, gInt, gDivmod, mSkip, mAnd, mOr, mNot, mBr, mIf, mExpr, gGt_int, gLt_int, gLe_int, gEq_int, gNe_int, Ot.bind, mCall, argV, argV1, varsR, nodupN, putO, mCh, mLen, lenR, mSet, asV, mTup, mLst, allD, mIsA, okIs, known, isTy, tyD, runF, mPar, parE, asN, mFz, ec, ga', mOwn, ownL, ap]
      · rw [hb] at ga'
        simp [ioOk, Vl.owned, startE, mSeq, mIfS, mOp2, mIxA, mV, lk, mK, ixR, sq, pk, Bx.ok, Bx.x, atI, ixN, ofSum, bo, Res.rs, mAsg, gTp, gs1, gs0, gSbA, stB, gNm, mD, fz, mB, mAs, pks, mRet, finF, resF, outsF, outI, gAdd, Mp.gSub, gMod, gDiv, gMulA, gInt, gDivmod, mSkip, mAnd, mOr, mNot, mBr, mIf, mExpr, gGt_int, gLt_int, gLe_int, gEq_int, gNe_int, Ot.bind, mCall, argV, argV1, varsR, nodupN, putO, mCh, mLen, lenR, mSet, asV, mTup, mLst, allD, mIsA, okIs, known, isTy, tyD, runF, mPar, parE, asN, mFz, ec, ga']
  rw [Nat.zero_add, PL_len, List.take_length] at e
  have fa : F_neighbours_of [.d (O n ps)] = .ok (.new (.lst (PL (nbR n ps))), [.d (O n ps)]) := by
    have e' : forGo (gTp 2 (gs1 (gNm [0] 2) (gs1 (gNm [0] 3) gs0))) neighbours_of_b1 (PL ps) [some (.d (O n ps)), some (.own (.lst [])), none, none, none] = _ := e
    unfold F_neighbours_of m_neighbours_of neighbours_of_l1
    unfold O at *
    simp [ioOk, Vl.owned, startE, mSeq, mIfS, mOp2, mIxA, mV, lk, mK, ixR, sq, pk, Bx.ok, Bx.x, atI, ixN, ofSum, bo, Res.rs, mAsg, gTp, gs1, gs0, gSbA, stB, gNm, mD, fz, mB, mAs, pks, mRet, finF, resF, outsF, outI, gAdd, Mp.gSub, gMod, gDiv, gMulA, gInt, gDivmod, mSkip, mAnd, mOr, mNot, mBr, mIf, mExpr, gGt_int, gLt_int, gLe_int, gEq_int, gNe_int, Ot.bind, mCall, argV, argV1, varsR, nodupN, putO, mCh, mLen, lenR, mSet, asV, mTup, mLst, allD, mIsA, okIs, known, isTy, tyD, runF, mPar, parE, asN, mFz, mFor, mIt, seqD, e', ownedAt]
    rfl
  have w := f_want_order h
  unfold F_neighbours m_neighbours
  simp [ioOk, Vl.owned, startE, mSeq, mIfS, mOp2, mIxA, mV, lk, mK, ixR, sq, pk, Bx.ok, Bx.x, atI, ixN, ofSum, bo, Res.rs, mAsg, gTp, gs1, gs0, gSbA, stB, gNm, mD, fz, mB, mAs, pks, mRet, finF, resF, outsF, outI, gAdd, Mp.gSub, gMod, gDiv, gMulA, gInt, gDivmod, mSkip, mAnd, mOr, mNot, mBr, mIf, mExpr, gGt_int, gLt_int, gLe_int, gEq_int, gNe_int, Ot.bind, mCall, argV, argV1, varsR, nodupN, putO, mCh, mLen, lenR, mSet, asV, mTup, mLst, allD, mIsA, okIs, known, isTy, tyD, runF, mPar, parE, asN, mFz, w, fa, gTuple]
end My
set_option maxHeartbeats 2000000
namespace My
open PySem PySem.Spec PyProof.Rows L2 Mp RZ
theorem rch_trans {ps : List (Int × Int)} {a b c : Int} (h : Pm.Rch ps a b) (h' : Pm.Rch ps b c) : Pm.Rch ps a c := by
  induction h' with
  | one m => exact .more h m
  | more _ m ih => exact .more ih m
theorem rch_sub {ps qs : List (Int × Int)} (hs : ∀ q ∈ qs, q ∈ ps) (t : Pm.Tr ps) {a b : Int} (h : Pm.Rch qs a b) : (a, b) ∈ ps := by
  induction h with
  | one m => exact hs _ m
  | more _ m ih => exact t _ _ _ ih (hs _ m)
theorem nbT_iff {n : Nat} {ps : List (Int × Int)} (hi : Pm.InR n ps) {a b : Int} : nbT n ps (a, b) = true ↔ ∃ c, (a, c) ∈ ps ∧ (c, b) ∈ ps := by
  unfold nbT
  rw [List.any_eq_true]
  constructor
  · rintro ⟨c, _, h⟩
    simp only [Bool.and_eq_true, decide_eq_true_eq] at h
    exact ⟨c, h⟩
  · rintro ⟨c, h1, h2⟩
    have := hi _ h1
    exact ⟨c, mem_upI.mpr ⟨this.2.2.1, this.2.2.2⟩, by simp [h1, h2]⟩
theorem mem_nb {n : Nat} {ps : List (Int × Int)} (hi : Pm.InR n ps) {a b : Int} : (a, b) ∈ nbR n ps ↔ (a, b) ∈ ps ∧ ∀ c, (a, c) ∈ ps → (c, b) ∉ ps := by
  unfold nbR
  rw [List.mem_filter, Bool.not_eq_true', ← Bool.not_eq_true, nbT_iff hi]
  constructor
  · exact fun ⟨h1, h2⟩ => ⟨h1, fun c h3 h4 => h2 ⟨c, h3, h4⟩⟩
  · exact fun ⟨h1, h2⟩ => ⟨h1, fun ⟨c, h3, h4⟩ => h2 c h3 h4⟩
theorem nb_sub {n : Nat} {ps : List (Int × Int)} : ∀ q ∈ nbR n ps, q ∈ ps := fun q hq => (List.mem_filter.mp hq).1
/-- those between two -/
def btw (n : Nat) (ps : List (Int × Int)) (a b : Int) : List Int := (upI n).filter fun c => decide ((a, c) ∈ ps) && decide ((c, b) ∈ ps)
theorem mem_btw {n : Nat} {ps : List (Int × Int)} (hi : Pm.InR n ps) {a b c : Int} : c ∈ btw n ps a b ↔ (a, c) ∈ ps ∧ (c, b) ∈ ps := by
  unfold btw
  rw [List.mem_filter]
  simp only [Bool.and_eq_true, decide_eq_true_eq]
  exact ⟨fun h => h.2, fun h => ⟨mem_upI.mpr (by have := hi _ h.1; exact ⟨this.2.2.1, this.2.2.2⟩), h⟩⟩
theorem upI_nd (n : Nat) : (upI n).Nodup := by
  unfold upI
  exact List.pairwise_map.mpr (List.nodup_range.imp fun {a b} hab e => hab (by omega))
theorem btw_lt {n : Nat} {ps : List (Int × Int)} (hi : Pm.InR n ps) (ir : Pm.Irr ps) (t : Pm.Tr ps) {a b a' b' c : Int} (hs : ∀ z, z ∈ btw n ps a' b' → z ∈ btw n ps a b) (hc : c ∈ btw n ps a b) (hn : c ∉ btw n ps a' b') :
    (btw n ps a' b').length < (btw n ps a b).length := by
  have nd : (btw n ps a' b').Nodup := (upI_nd n).filter _
  have := nodup_len (l := c :: btw n ps a' b') (m := btw n ps a b) (List.nodup_cons.mpr ⟨hn, nd⟩) fun x hx => by
    rcases List.mem_cons.mp hx with rfl | hx
    · exact hc
    · exact hs x hx
  rw [List.length_cons] at this
  omega
theorem nb_gen_k {n : Nat} {ps : List (Int × Int)} (hi : Pm.InR n ps) (ir : Pm.Irr ps) (t : Pm.Tr ps) : ∀ (k : Nat) (a b : Int), (btw n ps a b).length < k → (a, b) ∈ ps → Pm.Rch (nbR n ps) a b
  | 0, a, b, h, _ => by omega
  | k + 1, a, b, h, hab => by
    by_cases hc : ∃ c, (a, c) ∈ ps ∧ (c, b) ∈ ps
    · obtain ⟨c, h1, h2⟩ := hc
      have hcm := (mem_btw hi).mpr ⟨h1, h2⟩
      have l1 := btw_lt (n := n) hi ir t (a' := a) (b' := c) (fun z hz => by
        have := (mem_btw hi).mp hz
        exact (mem_btw hi).mpr ⟨this.1, t _ _ _ this.2 h2⟩) hcm (fun hz => ir c ((mem_btw hi).mp hz).2)
      have l2 := btw_lt (n := n) hi ir t (a' := c) (b' := b) (fun z hz => by
        have := (mem_btw hi).mp hz
        exact (mem_btw hi).mpr ⟨t _ _ _ h1 this.1, this.2⟩) hcm (fun hz => ir c ((mem_btw hi).mp hz).1)
      exact rch_trans (nb_gen_k hi ir t k a c (by omega) h1) (nb_gen_k hi ir t k c b (by omega) h2)
    · exact .one ((mem_nb hi).mpr ⟨hab, fun c h1 h2 => hc ⟨c, h1, h2⟩⟩)
theorem nb_gen {n : Nat} {ps : List (Int × Int)} (hi : Pm.InR n ps) (ir : Pm.Irr ps) (t : Pm.Tr ps) {a b : Int} : Pm.Rch (nbR n ps) a b ↔ (a, b) ∈ ps :=
  ⟨rch_sub nb_sub t, nb_gen_k hi ir t _ a b (Nat.lt_succ_self _)⟩
theorem nb_less {n : Nat} {ps : List (Int × Int)} (hi : Pm.InR n ps) (t : Pm.Tr ps) {a b : Int} (h : (a, b) ∈ nbR n ps) (p : Int × Int → Bool) (hp : p (a, b) = false) : ¬ Pm.Rch ((nbR n ps).filter p) a b := by
  intro r
  obtain ⟨_, h2⟩ := (mem_nb hi).mp h
  cases r with
  | one m =>
    have := (List.mem_filter.mp m).2
    rw [hp] at this
    cases this
  | more r m =>
    exact h2 _ (rch_sub (fun q hq => nb_sub q (List.mem_filter.mp hq).1) t r) (nb_sub _ (List.mem_filter.mp m).1)
end My
set_option maxHeartbeats 2000000
namespace My
open PySem PySem.Spec PyProof.Rows L2 Mp RZ
theorem LV.d {v : Option Vl} {w : D} {qs : List (Int × Int)} (h : LV v w qs) : LV (some (.d w)) w qs := ⟨h.1, .inl rfl⟩
theorem f_are_reports_w {w : D} {n : Int} {qs : List (Int × Int)} (hq : Pm.InR n qs) (hi : Pm.Irr qs) (hz : qs.length ≤ 200) {v : Vl} (hv : LV (some v) w qs) : F_are_reports_of [.d (.int n), v] = .ok (.d (.bool true), [.d (.int n), .d w]) := by
  have e : are_reports_of_c1 [some (.d (.int n)), some v, none] = .ok (.new (.lst (TT (PL qs).length)), [some (.d (.int n)), some (.d w), none]) := by
    unfold are_reports_of_c1
    refine mLc_all (ρ1 := [some (.d (.int n)), some (.d w), none]) (by rcases hv with ⟨rfl | rfl, h | ⟨e, h⟩⟩ <;> first | (cases e; done) | (cases h; simp [ioOk, Vl.owned, startE, mSeq, mIfS, mOp2, mIxA, mV, lk, mK, ixR, sq, pk, Bx.ok, Bx.x, atI, ixN, ofSum, bo, Res.rs, mAsg, gTp, gs1, gs0, gSbA, stB, gNm, mD, fz, mB, mAs, pks, mRet, finF, resF, outsF, outI, gAdd, Mp.gSub, gMod, gDiv, gMulA, gInt, gDivmod, mSkip, mAnd, mOr, mNot, mBr, mIf, mExpr, gGt_int, gLt_int, gLe_int, gEq_int, gNe_int, Ot.bind, mCall, argV, argV1, varsR, nodupN, putO, mCh, mLen, lenR, mSet, asV, mTup, mLst, allD, mIsA, okIs, known, isTy, tyD, runF, mPar, parE, asN, mFz, mIt, seqD])) rfl (fun x hx => ?_) (by rw [PL_len, sizeLine_eq]; omega)
    obtain ⟨⟨c, d⟩, hq', rfl⟩ := List.mem_map.mp hx
    refine ⟨[some (.d (.int n)), some (.d w), some (.d (pr (c, d)))], rfl, rfl, rfl, ?_⟩
    have hd := f_is_pair_of n c d
    obtain ⟨i1, i2, i3, i4⟩ := hq _ hq'
    rw [decide_eq_true (p := 0 ≤ c ∧ c < n ∧ 0 ≤ d ∧ d < n ∧ c ≠ d) ⟨i1, i2, i3, i4, fun e => by subst e; exact hi _ hq'⟩] at hd
    simp [ioOk, Vl.owned, startE, mSeq, mIfS, mOp2, mIxA, mV, lk, mK, ixR, sq, pk, Bx.ok, Bx.x, atI, ixN, ofSum, bo, Res.rs, mAsg, gTp, gs1, gs0, gSbA, stB, gNm, mD, fz, mB, mAs, pks, mRet, finF, resF, outsF, outI, gAdd, Mp.gSub, gMod, gDiv, gMulA, gInt, gDivmod, mSkip, mAnd, mOr, mNot, mBr, mIf, mExpr, gGt_int, gLt_int, gLe_int, gEq_int, gNe_int, Ot.bind, mCall, argV, argV1, varsR, nodupN, putO, mCh, mLen, lenR, mSet, asV, mTup, mLst, allD, mIsA, okIs, known, isTy, tyD, runF, mPar, parE, asN, mFz, hd]
  have il : F_is_list [v] = .ok (.d (.bool true), [v]) := by
    unfold F_is_list m_is_list
    rcases hv with ⟨rfl | rfl, h | ⟨e, h⟩⟩ <;> first | (cases e; done) | (cases h; simp [ioOk, Vl.owned, startE, mSeq, mIfS, mOp2, mIxA, mV, lk, mK, ixR, sq, pk, Bx.ok, Bx.x, atI, ixN, ofSum, bo, Res.rs, mAsg, gTp, gs1, gs0, gSbA, stB, gNm, mD, fz, mB, mAs, pks, mRet, finF, resF, outsF, outI, gAdd, Mp.gSub, gMod, gDiv, gMulA, gInt, gDivmod, mSkip, mAnd, mOr, mNot, mBr, mIf, mExpr, gGt_int, gLt_int, gLe_int, gEq_int, gNe_int, Ot.bind, mCall, argV, argV1, varsR, nodupN, putO, mCh, mLen, lenR, mSet, asV, mTup, mLst, allD, mIsA, okIs, known, isTy, tyD, runF, mPar, parE, asN, mFz])
  have hz2 : ((PL qs).length : Int) ≤ 200 := by rw [PL_len]; omega
  unfold F_are_reports_of m_are_reports_of
  rcases hv with ⟨rfl | rfl, h | ⟨e', h⟩⟩ <;> first | (cases e'; done) | (cases h; simp [ioOk, Vl.owned, startE, mSeq, mIfS, mOp2, mIxA, mV, lk, mK, ixR, sq, pk, Bx.ok, Bx.x, atI, ixN, ofSum, bo, Res.rs, mAsg, gTp, gs1, gs0, gSbA, stB, gNm, mD, fz, mB, mAs, pks, mRet, finF, resF, outsF, outI, gAdd, Mp.gSub, gMod, gDiv, gMulA, gInt, gDivmod, mSkip, mAnd, mOr, mNot, mBr, mIf, mExpr, gGt_int, gLt_int, gLe_int, gEq_int, gNe_int, Ot.bind, mCall, argV, argV1, varsR, nodupN, putO, mCh, mLen, lenR, mSet, asV, mTup, mLst, allD, mIsA, okIs, known, isTy, tyD, runF, mPar, parE, asN, mFz, il, e, gAll_TT, hz2])
theorem f_want_reports_w {w : D} {n : Int} (hn : 1 ≤ n ∧ n ≤ 10) {qs : List (Int × Int)} (hq : Pm.InR n qs) (hi : Pm.Irr qs) (hz : qs.length ≤ 200) {v : Vl} (hv : LV (some v) w qs) : F_want_reports [.d (.int n), v] = .ok (.d .none, [.d (.int n), .d w]) := by
  have w1 := f_want_many hn
  have w2 := f_are_reports_w hq hi hz hv
  unfold F_want_reports m_want_reports
  rcases hv with ⟨rfl | rfl, h | ⟨e', h⟩⟩ <;> first | (cases e'; done) | (cases h; simp [ioOk, Vl.owned, startE, mSeq, mIfS, mOp2, mIxA, mV, lk, mK, ixR, sq, pk, Bx.ok, Bx.x, atI, ixN, ofSum, bo, Res.rs, mAsg, gTp, gs1, gs0, gSbA, stB, gNm, mD, fz, mB, mAs, pks, mRet, finF, resF, outsF, outI, gAdd, Mp.gSub, gMod, gDiv, gMulA, gInt, gDivmod, mSkip, mAnd, mOr, mNot, mBr, mIf, mExpr, gGt_int, gLt_int, gLe_int, gEq_int, gNe_int, Ot.bind, mCall, argV, argV1, varsR, nodupN, putO, mCh, mLen, lenR, mSet, asV, mTup, mLst, allD, mIsA, okIs, known, isTy, tyD, runF, mPar, parE, asN, mFz, w1, w2])
/-- the order of reports that close without a ring -/
theorem f_order_any {w : D} {n : Nat} (hn : 1 ≤ n ∧ n ≤ 10) {qs : List (Int × Int)} (hq : Pm.InR n qs) (hi : Pm.Irr qs) (hz : qs.length ≤ 200) (hs : ∀ h, (succ qs h).length < 64) (hr : ∀ x, ¬ Pm.Rch qs x x) {v : Vl} (hv : LV (some v) w qs) :
    ∃ rs, Ordr n rs ∧ (∀ x y, (x, y) ∈ rs ↔ Pm.Rch qs x y) ∧ F_order_of [.d (.int n), v] = .ok (.d (O n rs), [.d (.int n), .d w]) := by
  obtain ⟨cs, nd, hm, hcl, ec⟩ := f_closed_by hq (by omega) (by omega) (by omega) hs (.d w) hv.d
  have w3 := f_want_reports_w (n := n) (by omega) hq hi hz hv
  have c1 : order_of_c1 [some (.d (.int n)), some (.d w), some (.own (.lst (PL cs))), none, none] =
      .ok (.new (.lst ((PL cs).map fun x => .bool ((unpr x).1 == (unpr x).2))), [some (.d (.int n)), some (.d w), some (.d (.list (PL cs))), none, none]) := by
    unfold order_of_c1
    have := mLc_pure (n := 5) (it := mIt (mV 2)) (g := gTp 2 (gs1 (gNm (outs 5 [3, 4]) 3) (gs1 (gNm (outs 5 [3, 4]) 4) gs0))) (tt := mYes) (te := mOp2 gEq (mV 3) (mV 4)) (vs := [3, 4])
      (ρ := [some (.d (.int n)), some (.d w), some (.own (.lst (PL cs))), none, none]) (ρ1 := [some (.d (.int n)), some (.d w), some (.d (.list (PL cs))), none, none])
      (xs := PL cs) (p := fun _ => true) (h := fun x => .bool ((unpr x).1 == (unpr x).2)) (by simp [ioOk, Vl.owned, startE, mSeq, mIfS, mOp2, mIxA, mV, lk, mK, ixR, sq, pk, Bx.ok, Bx.x, atI, ixN, ofSum, bo, Res.rs, mAsg, gTp, gs1, gs0, gSbA, stB, gNm, mD, fz, mB, mAs, pks, mRet, finF, resF, outsF, outI, gAdd, Mp.gSub, gMod, gDiv, gMulA, gInt, gDivmod, mSkip, mAnd, mOr, mNot, mBr, mIf, mExpr, gGt_int, gLt_int, gLe_int, gEq_int, gNe_int, Ot.bind, mCall, argV, argV1, varsR, nodupN, putO, mCh, mLen, lenR, mSet, asV, mTup, mLst, allD, mIsA, okIs, known, isTy, tyD, runF, mPar, parE, asN, mFz, mIt, seqD]) rfl (fun x hx => ?_) (by rw [PL_len, sizeLine_eq]; omega)
    · rw [filter_tt] at this
      exact this
    · obtain ⟨⟨c, d⟩, hq, rfl⟩ := List.mem_map.mp hx
      exact ⟨[some (.d (.int n)), some (.d w), some (.d (.list (PL cs))), some (.d (.int c)), some (.d (.int d))], rfl, rfl, rfl, rfl, fun _ => by simp [ioOk, Vl.owned, startE, mSeq, mIfS, mOp2, mIxA, mV, lk, mK, ixR, sq, pk, Bx.ok, Bx.x, atI, ixN, ofSum, bo, Res.rs, mAsg, gTp, gs1, gs0, gSbA, stB, gNm, mD, fz, mB, mAs, pks, mRet, finF, resF, outsF, outI, gAdd, Mp.gSub, gMod, gDiv, gMulA, gInt, gDivmod, mSkip, mAnd, mOr, mNot, mBr, mIf, mExpr, gGt_int, gLt_int, gLe_int, gEq_int, gNe_int, Ot.bind, mCall, argV, argV1, varsR, nodupN, putO, mCh, mLen, lenR, mSet, asV, mTup, mLst, allD, mIsA, okIs, known, isTy, tyD, runF, mPar, parE, asN, mFz, unpr_pr]⟩
  have g1 := gAny_map (PL cs) (fun x => (unpr x).1 == (unpr x).2)
  have g2 : (PL cs).any (fun x => (unpr x).1 == (unpr x).2) = false := by
    rw [List.any_eq_false]
    intro x hx
    obtain ⟨⟨c, d⟩, hq, rfl⟩ := List.mem_map.mp hx
    simp only [unpr_pr, beq_iff_eq]
    rintro rfl
    exact hr c ((hm _ _).mp hq)
  rw [g2] at g1
  have fm : F_made [.d (.int n), .d (.list (PL cs))] = .ok (.d (O n (srt cs)), [.d (.int n), .d (.list (PL cs))]) := by
    unfold F_made m_made O
    simp [ioOk, Vl.owned, startE, mSeq, mIfS, mOp2, mIxA, mV, lk, mK, ixR, sq, pk, Bx.ok, Bx.x, atI, ixN, ofSum, bo, Res.rs, mAsg, gTp, gs1, gs0, gSbA, stB, gNm, mD, fz, mB, mAs, pks, mRet, finF, resF, outsF, outI, gAdd, Mp.gSub, gMod, gDiv, gMulA, gInt, gDivmod, mSkip, mAnd, mOr, mNot, mBr, mIf, mExpr, gGt_int, gLt_int, gLe_int, gEq_int, gNe_int, Ot.bind, mCall, argV, argV1, varsR, nodupN, putO, mCh, mLen, lenR, mSet, asV, mTup, mLst, allD, mIsA, okIs, known, isTy, tyD, runF, mPar, parE, asN, mFz, gSort_PL, gTuple]
  refine ⟨srt cs, ⟨by omega, by omega, fun q h => ?_, sort_rise nd, fun x h => hr x ((hm _ _).mp (mem_sort.mp h)), fun a b c h1 h2 => mem_sort.mpr ((hm _ _).mpr (rch_trans ((hm _ _).mp (mem_sort.mp h1)) ((hm _ _).mp (mem_sort.mp h2))))⟩, fun x y => by rw [mem_sort, hm], ?_⟩
  · have r := (hm q.1 q.2).mp (mem_sort.mp h)
    obtain ⟨z, hz⟩ := r.from
    have i1 := hq _ hz
    have i2 := r.inr hq
    exact ⟨i1.1, i1.2.1, i2.1, i2.2⟩
  unfold F_order_of m_order_of
  rcases hv with ⟨rfl | rfl, h | ⟨e', h⟩⟩ <;> first | (cases e'; done) | (cases h; simp [ioOk, Vl.owned, startE, mSeq, mIfS, mOp2, mIxA, mV, lk, mK, ixR, sq, pk, Bx.ok, Bx.x, atI, ixN, ofSum, bo, Res.rs, mAsg, gTp, gs1, gs0, gSbA, stB, gNm, mD, fz, mB, mAs, pks, mRet, finF, resF, outsF, outI, gAdd, Mp.gSub, gMod, gDiv, gMulA, gInt, gDivmod, mSkip, mAnd, mOr, mNot, mBr, mIf, mExpr, gGt_int, gLt_int, gLe_int, gEq_int, gNe_int, Ot.bind, mCall, argV, argV1, varsR, nodupN, putO, mCh, mLen, lenR, mSet, asV, mTup, mLst, allD, mIsA, okIs, known, isTy, tyD, runF, mPar, parE, asN, mFz, w3, ec, c1, g1, fm])
end My
set_option maxHeartbeats 2000000
namespace My
open PySem PySem.Spec PyProof.Rows L2 Mp RZ
mutual
def nice (c : Nat) : D → Bool
  | .list xs => decide (xs.length ≤ c) && niceAll c xs
  | .tuple xs => decide (xs.length ≤ c) && niceAll c xs
  | .dict kvs => kvs.isEmpty
  | .int i => decide (-(c : Int) ≤ i ∧ i ≤ c)
  | .str s => PyData.showable (.str s)
  | _ => true
def niceAll (c : Nat) : List D → Bool
  | [] => true
  | x :: xs => nice c x && niceAll c xs
end
theorem niceAll_mem {c : Nat} : ∀ {xs : List D}, niceAll c xs = true → ∀ x ∈ xs, nice c x = true
  | [], _, x, hx => by cases hx
  | y :: ys, h, x, hx => by
    unfold niceAll at h
    obtain ⟨h1, h2⟩ := (Bool.and_eq_true _ _).mp h
    rcases List.mem_cons.mp hx with rfl | hx
    · exact h1
    · exact niceAll_mem h2 x hx
theorem niceAll_of {c : Nat} : ∀ {xs : List D}, (∀ x ∈ xs, nice c x = true) → niceAll c xs = true
  | [], _ => rfl
  | y :: ys, h => by
    unfold niceAll
    rw [h y List.mem_cons_self, niceAll_of fun x hx => h x (List.mem_cons_of_mem _ hx)]
    rfl
theorem nice_ok {c : Nat} {d : D} (h : nice c d = true) : okIs d = true := by
  cases d with
  | dict kvs =>
    unfold nice at h
    cases kvs with
    | nil => rfl
    | cons a b => cases h
  | _ => rfl
theorem nice_tup {c : Nat} {xs : List D} (h : nice c (.tuple xs) = true) : xs.length ≤ c ∧ ∀ x ∈ xs, nice c x = true := by
  unfold nice at h
  obtain ⟨h1, h2⟩ := (Bool.and_eq_true _ _).mp h
  exact ⟨of_decide_eq_true h1, niceAll_mem h2⟩
def isI : D → Bool
  | .int _ => true
  | _ => false
def isW (a b : Int) : D → Bool
  | .int i => decide (a ≤ i) && decide (i ≤ b)
  | _ => false
def isT (n : Int) : D → Bool
  | .tuple xs => decide ((xs.length : Int) = n)
  | _ => false
theorem gAll_map (xs : List D) (p : D → Bool) : gAll [.list (xs.map fun x => .bool (p x))] = some (.d (.bool (xs.all p))) := by
  unfold gAll
  simp only [allBool_map]
  rw [List.all_map]
  rfl
theorem isW_int {a b : Int} {x : D} (h : isW a b x = true) : ∃ i : Int, x = .int i ∧ a ≤ i ∧ i ≤ b := by
  cases x with
  | int i =>
    unfold isW at h
    obtain ⟨h1, h2⟩ := (Bool.and_eq_true _ _).mp h
    exact ⟨i, rfl, of_decide_eq_true h1, of_decide_eq_true h2⟩
  | _ => cases h
theorem any_PL (ps : List (Int × Int)) (p : Int × Int → Bool) : (PL ps).any (fun x => p (unpr x)) = ps.any p := by
  unfold PL
  rw [List.any_map]
  rfl
theorem forGo_fb {g : MT} {b : MS} {q : D → Bool} {r : Rs} {I : Mp.Env → Prop} (xs : List D) (ρ : Mp.Env) (h : I ρ)
    (st : ∀ x ∈ xs, ∀ ρ, I ρ → ∃ ρ', (g x ρ).bind b = .ok ((bif q x then .ret r else .next), ρ') ∧ I ρ') : ∃ ρ', forGo g b xs ρ = .ok ((bif xs.any q then .ret r else .next), ρ') ∧ I ρ' := by
  have := forGo_find (g := g) (b := b) (q := q) (r := r) (I := I) xs ρ h fun x hx ρ hi => by
    obtain ⟨ρ', e, h'⟩ := st x hx ρ hi
    split
    · rename_i hq; rw [hq] at e; exact ⟨ρ', e, h'⟩
    · rename_i hq; rw [Bool.not_eq_true] at hq; rw [hq] at e; exact ⟨ρ', e, h'⟩
  split at this
  · rename_i hq; rw [hq]; exact this
  · rename_i hq; rw [Bool.not_eq_true] at hq; rw [hq]; exact this
theorem gNe_PL (ps qs : List (Int × Int)) : gNe (.list (PL ps)) (.list (PL qs)) = some (.d (.bool (!decide (ps = qs)))) := by
  have e1 : ∀ ps qs : List (Int × Int), PyData.eqvAll (PL ps) (PL qs) = decide (ps = qs) := by
    intro ps
    induction ps with
    | nil => intro qs; cases qs <;> simp [PL, PyData.eqvAll]
    | cons p ps ih =>
      intro qs
      cases qs with
      | nil => simp [PL, PyData.eqvAll]
      | cons q qs =>
        have := ih qs
        have h2 := pr_eqv p q
        show PyData.eqvAll (pr p :: PL ps) (pr q :: PL qs) = _
        unfold PyData.eqvAll
        rw [this, h2, Bool.eq_iff_iff]
        simp
  have e2 := depth_PL ps
  have h : ((PyData.list (PL ps)).plain && (PyData.list (PL qs)).plain && shal (.list (PL ps))) = true := by
    simp only [PyData.plain, PL_plain, shal, PyData.depth, Bool.true_and]
    refine decide_eq_true ?_
    omega
  unfold gNe
  rw [if_pos h]
  simp only [PyData.eqv, e1]
mutual
def wt : D → Nat
  | .list xs => wtA xs + 3
  | .tuple xs => wtA xs + 3
  | .dict _ => 2
  | .str s => (PyData.shown (.str s)).length
  | _ => 5
def wtA : List D → Nat
  | [] => 0
  | x :: xs => wt x + 2 + wtA xs
end
theorem wtA_app : ∀ xs ys : List D, wtA (xs ++ ys) = wtA xs + wtA ys
  | [], ys => by simp [wtA]
  | x :: xs, ys => by
    show wt x + 2 + wtA (xs ++ ys) = wt x + 2 + wtA xs + wtA ys
    rw [wtA_app xs ys]
    omega
theorem wtA_one (x : D) : wtA [x] = wt x + 2 := rfl
theorem wtA_rev : ∀ xs : List D, wtA xs.reverse = wtA xs
  | [] => rfl
  | x :: xs => by
    rw [List.reverse_cons, wtA_app, wtA_rev xs, wtA_one]
    show _ = wt x + 2 + wtA xs
    omega
theorem int_short {i : Int} (h1 : -(60 : Int) ≤ i) (h2 : i ≤ 60) : (PyData.shown (.int i)).length ≤ 5 := by
  have h : ∀ k : Fin 121, (PyData.shown (.int ((k.val : Int) - 60))).length ≤ 5 := by decide +kernel
  have := h ⟨(i + 60).toNat, by omega⟩
  rw [show (((i + 60).toNat : Nat) : Int) - 60 = i from by omega] at this
  exact this
mutual
theorem wt_shown {c : Nat} (hc : c ≤ 60) : ∀ {d : D}, nice c d = true → (PyData.shown d).length ≤ wt d ∧ PyData.showable d = true
  | .none, _ => ⟨by decide +kernel, by unfold PyData.showable; rfl⟩
  | .bool true, _ => ⟨by decide +kernel, by unfold PyData.showable; rfl⟩
  | .bool false, _ => ⟨by decide +kernel, by unfold PyData.showable; rfl⟩
  | .str s, _ => ⟨Nat.le_refl _, by unfold PyData.showable; rfl⟩
  | .int i, h => by
    unfold nice at h
    have h := of_decide_eq_true h
    refine ⟨int_short (by omega) (by omega), ?_⟩
    have : i.natAbs.log2 ≤ i.natAbs := Nat.log2_le_self _
    unfold PyData.showable
    exact decide_eq_true (by omega)
  | .dict kvs, h => by
    unfold nice at h
    cases kvs with
    | nil => exact ⟨by decide +kernel, by decide +kernel⟩
    | cons a b => cases h
  | .list xs, h => by
    unfold nice at h
    obtain ⟨h1, h2⟩ := (Bool.and_eq_true _ _).mp h
    obtain ⟨i1, i2⟩ := wtA_shown hc h2
    have t := listText_le (PyData.shownAll xs)
    have e : PyData.shown (.list xs) = listText (PyData.shownAll xs) := by simp only [PyData.shown]
    refine ⟨?_, by unfold PyData.showable; exact i2⟩
    rw [e]
    unfold wt
    omega
  | .tuple xs, h => by
    unfold nice at h
    obtain ⟨h1, h2⟩ := (Bool.and_eq_true _ _).mp h
    obtain ⟨i1, i2⟩ := wtA_shown hc h2
    have t := tupleText_le (PyData.shownAll xs)
    have e : PyData.shown (.tuple xs) = tupleText (PyData.shownAll xs) := by simp only [PyData.shown]
    refine ⟨?_, by unfold PyData.showable; exact i2⟩
    rw [e]
    unfold wt
    omega
theorem wtA_shown {c : Nat} (hc : c ≤ 60) : ∀ {xs : List D}, niceAll c xs = true → piled (PyData.shownAll xs) ≤ wtA xs ∧ PyData.showableAll xs = true
  | [], _ => ⟨Nat.le_refl _, rfl⟩
  | x :: xs, h => by
    unfold niceAll at h
    obtain ⟨h1, h2⟩ := (Bool.and_eq_true _ _).mp h
    obtain ⟨i1, i2⟩ := wt_shown hc h1
    obtain ⟨i3, i4⟩ := wtA_shown hc h2
    refine ⟨?_, ?_⟩
    · show piled (PyData.shown x :: PyData.shownAll xs) ≤ wt x + 2 + wtA xs
      rw [piled_cons]
      omega
    · unfold PyData.showableAll
      rw [i2, i4]
      rfl
end
def clean (d : D) : Bool := !PyData.hasDict d || noLst d
structure Fine (c w k : Nat) (d : D) : Prop where
  nice : nice c d = true
  wt : wt d ≤ w
  dep : PyData.depth d ≤ k
  cl : clean d = true
theorem Fine.mono {c w k c' w' k' : Nat} {d : D} (h : Fine c w k d) (h1 : c = c') (h2 : w ≤ w') (h3 : k ≤ k') : Fine c' w' k' d := ⟨h1 ▸ h.nice, Nat.le_trans h.wt h2, Nat.le_trans h.dep h3, h.cl⟩
theorem gRepr_fine {c w k : Nat} {d : D} (h : Fine c w k d) (hc : c ≤ 60) (hw : w ≤ 100000) (hk : k ≤ 100) : gReprD [d] = some (.d (.str (PyData.shown d))) := by
  obtain ⟨i1, i2⟩ := wt_shown hc h.nice
  have h1 := h.wt
  have h2 := h.dep
  have h3 : (!PyData.hasDict d || noLst d) = true := h.cl
  unfold gReprD reprOk
  simp only [h3, i2, decide_eq_true (show PyData.depth d < 200 by omega), decide_eq_true (show (PyData.shown d).length ≤ sizeLine by rw [sizeLine_eq]; omega), Bool.and_self, if_true]
theorem gRepr_bb (b : Bool) : ∃ s, gReprD [.list [.bool b, .bool b]] = some (.d (.str s)) := by
  cases b
  · exact ⟨_, rfl⟩
  · exact ⟨_, rfl⟩
mutual
def base (c : Nat) : D → Bool
  | .tuple xs => decide (xs.length ≤ c) && baseA c xs
  | .int i => decide (-(c : Int) ≤ i ∧ i ≤ c)
  | .str _ => true
  | _ => false
def baseA (c : Nat) : List D → Bool
  | [] => true
  | x :: xs => base c x && baseA c xs
end
theorem baseA_mem {c : Nat} : ∀ {xs : List D}, baseA c xs = true → ∀ x ∈ xs, base c x = true
  | [], _, x, hx => by cases hx
  | y :: ys, h, x, hx => by
    unfold baseA at h
    obtain ⟨h1, h2⟩ := (Bool.and_eq_true _ _).mp h
    rcases List.mem_cons.mp hx with rfl | hx
    · exact h1
    · exact baseA_mem h2 x hx
mutual
theorem base_nice {c : Nat} : ∀ {d : D}, base c d = true → nice c d = true ∧ nice (c + 1) d = true ∧ noLst d = true ∧ PyData.hasDict d = false
  | .int i, h => by
    unfold base at h
    have h := of_decide_eq_true h
    refine ⟨decide_eq_true h, decide_eq_true ?_, rfl, by unfold PyData.hasDict; rfl⟩
    omega
  | .str s, h => ⟨by unfold nice PyData.showable; rfl, by unfold nice PyData.showable; rfl, rfl, by unfold PyData.hasDict; rfl⟩
  | .tuple xs, h => by
    unfold base at h
    obtain ⟨h1, h2⟩ := (Bool.and_eq_true _ _).mp h
    obtain ⟨i1, i2, i3, i4⟩ := baseA_nice h2
    have h1 := of_decide_eq_true h1
    unfold nice noLst PyData.hasDict
    rw [i1, i2, i3, i4]
    refine ⟨?_, ?_, rfl, rfl⟩
    · rw [Bool.and_true]; exact decide_eq_true h1
    · rw [Bool.and_true]; exact decide_eq_true (by omega)
  | .none, h => by cases h
  | .bool _, h => by cases h
  | .list _, h => by cases h
  | .dict _, h => by cases h
theorem baseA_nice {c : Nat} : ∀ {xs : List D}, baseA c xs = true → niceAll c xs = true ∧ niceAll (c + 1) xs = true ∧ noLsts xs = true ∧ PyData.hasDictAll xs = false
  | [], _ => ⟨rfl, rfl, rfl, rfl⟩
  | x :: xs, h => by
    unfold baseA at h
    obtain ⟨h1, h2⟩ := (Bool.and_eq_true _ _).mp h
    obtain ⟨i1, i2, i3, i4⟩ := base_nice h1
    obtain ⟨j1, j2, j3, j4⟩ := baseA_nice h2
    unfold niceAll noLsts PyData.hasDictAll
    rw [i1, i2, i3, i4, j1, j2, j3, j4]
    exact ⟨rfl, rfl, rfl, rfl⟩
end
theorem niceA_app {c : Nat} {xs ys : List D} : niceAll c (xs ++ ys) = true ↔ niceAll c xs = true ∧ niceAll c ys = true := by
  constructor
  · intro h
    have h := niceAll_mem h
    exact ⟨niceAll_of fun x hx => h x (List.mem_append.mpr (.inl hx)), niceAll_of fun x hx => h x (List.mem_append.mpr (.inr hx))⟩
  · rintro ⟨h1, h2⟩
    exact niceAll_of fun x hx => (List.mem_append.mp hx).elim (niceAll_mem h1 x) (niceAll_mem h2 x)
theorem nol_all : ∀ {xs : List D}, noLsts xs = true ↔ ∀ x ∈ xs, noLst x = true
  | [] => ⟨(fun _ x hx => by cases hx), fun _ => rfl⟩
  | y :: ys => by
    unfold noLsts
    rw [Bool.and_eq_true, nol_all]
    simp
theorem nod_all : ∀ {xs : List D}, PyData.hasDictAll xs = false ↔ ∀ x ∈ xs, PyData.hasDict x = false
  | [] => ⟨(fun _ x hx => by cases hx), fun _ => rfl⟩
  | y :: ys => by
    unfold PyData.hasDictAll
    rw [Bool.or_eq_false_iff, nod_all]
    simp
theorem dep_all {k : Nat} : ∀ {xs : List D}, PyData.depthAll xs ≤ k ↔ ∀ x ∈ xs, PyData.depth x ≤ k
  | [] => ⟨(fun _ x hx => by cases hx), fun _ => Nat.zero_le _⟩
  | y :: ys => by
    unfold PyData.depthAll
    rw [Nat.max_le, dep_all]
    simp
theorem wtA_mem : ∀ {xs : List D} {x : D}, x ∈ xs → wt x + 2 ≤ wtA xs
  | y :: ys, x, h => by
    show _ ≤ wt y + 2 + wtA ys
    rcases List.mem_cons.mp h with rfl | h
    · omega
    · have := wtA_mem h
      omega
/-- a tuple (or list) of good things, at most one of them odd -/
theorem fine_seq {c w k : Nat} {xs : List D} (hn : ∀ x ∈ xs, nice c x = true) (hl : xs.length ≤ c) (hw : wtA xs + 3 ≤ w) (hk : ∀ x ∈ xs, PyData.depth x + 1 ≤ k) (hk0 : 1 ≤ k)
    (hc : (∀ x ∈ xs, noLst x = true) ∨ (∀ x ∈ xs, PyData.hasDict x = false)) : Fine c w k (.tuple xs) := by
  refine ⟨?_, hw, ?_, ?_⟩
  · unfold nice
    rw [niceAll_of hn, decide_eq_true hl]
    rfl
  · unfold PyData.depth
    have : PyData.depthAll xs ≤ k - 1 := dep_all.mpr fun x hx => by have := hk x hx; omega
    omega
  · unfold clean noLst PyData.hasDict
    rcases hc with h | h
    · rw [nol_all.mpr h]; simp
    · rw [nod_all.mpr h]; simp
theorem fine_lst {c w k : Nat} {xs : List D} (hn : ∀ x ∈ xs, nice c x = true) (hl : xs.length ≤ c) (hw : wtA xs + 3 ≤ w) (hk : ∀ x ∈ xs, PyData.depth x + 1 ≤ k) (hk0 : 1 ≤ k)
    (hc : ∀ x ∈ xs, PyData.hasDict x = false) : Fine c w k (.list xs) := by
  refine ⟨?_, hw, ?_, ?_⟩
  · unfold nice
    rw [niceAll_of hn, decide_eq_true hl]
    rfl
  · unfold PyData.depth
    have : PyData.depthAll xs ≤ k - 1 := dep_all.mpr fun x hx => by have := hk x hx; omega
    omega
  · unfold clean PyData.hasDict
    rw [nod_all.mpr hc]; simp
theorem cut_to (xs : List D) {k : Nat} (h : k ≤ xs.length) : Mp.cutD xs none (some (k : Int)) = xs.take k := by
  unfold Mp.cutD
  have e1 : HT.sIx xs.length xs.length (some (k : Int)) = k := by
    unfold HT.sIx
    simp
    rw [if_neg (by omega)]
    omega
  have e2 : HT.sIx xs.length 0 none = 0 := rfl
  rw [e1, e2]
  simp
theorem cut_from (xs : List D) {k : Nat} (h : k ≤ xs.length) : Mp.cutD xs (some (k : Int)) none = xs.drop k := by
  unfold Mp.cutD
  have e1 : HT.sIx xs.length 0 (some (k : Int)) = k := by
    unfold HT.sIx
    simp
    rw [if_neg (by omega)]
    omega
  have e2 : HT.sIx xs.length xs.length none = xs.length := rfl
  rw [e1, e2]
  exact List.take_of_length_le (by rw [List.length_drop]; omega)
theorem cut_one (xs : List D) {k : Nat} (h : k < xs.length) : Mp.cutD xs (some (k : Int)) (some ((k : Int) + 1)) = [xs[k]] := by
  unfold Mp.cutD
  have e1 : HT.sIx xs.length 0 (some (k : Int)) = k := by
    unfold HT.sIx
    simp
    rw [if_neg (by omega)]
    omega
  have e2 : HT.sIx xs.length xs.length (some ((k : Int) + 1)) = k + 1 := by
    unfold HT.sIx
    rw [show (k : Int) + 1 = ((k + 1 : Nat) : Int) by omega]
    simp
    rw [if_neg (by omega)]
    omega
  rw [e1, e2]
  rw [show k + 1 - k = 1 from by omega, List.drop_eq_getElem_cons h]
  rfl
theorem cut_from1 (xs : List D) {k : Nat} (h : k < xs.length) : Mp.cutD xs (some ((k : Int) + 1)) none = xs.drop (k + 1) := by
  have := cut_from xs (k := k + 1) (by omega)
  rw [show (((k + 1 : Nat)) : Int) = (k : Int) + 1 by omega] at this
  exact this
/-- what bending gives -/
def Bent (c w k : Nat) (F : Fn) (d : D) : Prop := ∀ a b, PotOk a b → ∃ a' b' r e, PotOk a' b' ∧ F [.own (.lst [.int a, .int b]), .d d] = .ok (r, [.own (.lst [.int a', .int b']), .d d]) ∧
  (r = .d e ∨ ∃ es, r = .new (.lst es) ∧ e = .list es) ∧ Fine c w k e
def mid (xs : List D) (k : Nat) (ys : List D) : List D := xs.take k ++ ys ++ xs.drop (k + 1)
theorem wt_mid (xs ys : List D) {k : Nat} (h : k < xs.length) : wtA (mid xs k ys) + wt xs[k] + 2 = wtA xs + wtA ys := by
  unfold mid
  rw [wtA_app, wtA_app]
  have e : xs = xs.take k ++ (xs[k] :: xs.drop (k + 1)) := by rw [← List.drop_eq_getElem_cons h]; exact (List.take_append_drop k xs).symm
  have h2 : wtA xs = wtA (xs.take k) + (wt xs[k] + 2 + wtA (xs.drop (k + 1))) := by
    have := congrArg wtA e
    rw [wtA_app] at this
    exact this
  omega
theorem mem_mid {xs ys : List D} {k : Nat} {x : D} (h : x ∈ mid xs k ys) : x ∈ xs ∨ x ∈ ys := by
  unfold mid at h
  rcases List.mem_append.mp h with h | h
  · rcases List.mem_append.mp h with h | h
    · exact .inl (List.take_subset _ _ h)
    · exact .inr h
  · exact .inl (List.drop_subset _ _ h)
theorem len_mid (xs ys : List D) {k : Nat} (h : k < xs.length) : (mid xs k ys).length + 1 = xs.length + ys.length := by
  unfold mid
  rw [List.length_append, List.length_append, List.length_take, List.length_drop]
  omega
theorem str_short {i : Int} (h1 : -(60 : Int) ≤ i) (h2 : i ≤ 60) : (PyData.shown (.str (toString i))).length ≤ 10 := by
  have h : ∀ k : Fin 121, (PyData.shown (.str (toString ((k.val : Int) - 60)))).length ≤ 10 := by decide +kernel
  have := h ⟨(i + 60).toNat, by omega⟩
  rw [show (((i + 60).toNat : Nat) : Int) - 60 = i from by omega] at this
  exact this
/-- a comprehension that keeps those that its own draw keeps -/
theorem lcGo_sub {n : Nat} {g : MT} {tt te : M} {vs : List Nat} {P : Mp.Env → Prop} : ∀ (xs acc : List D) (A : Mp.Env), P A →
    (∀ x ∈ xs, ∀ A, P A → ∃ A1 A2 b, g x A = .ok A1 ∧ A1.length = n ∧ tt A1 = .ok (.d (.bool b), A2) ∧ (b = true → mD te A2 = .ok (.d x, A2)) ∧ P (wipeE A2 vs)) → acc.length + xs.length ≤ sizeLine →
    ∃ ys A', lcGo n g tt te vs xs A acc = .ok (acc ++ ys, A') ∧ P A' ∧ ys.Sublist xs
  | [], acc, A, h, _, _ => ⟨[], A, by unfold lcGo; simp, h, List.Sublist.refl _⟩
  | x :: xs, acc, A, h, st, hz => by
    rw [List.length_cons] at hz
    obtain ⟨A1, A2, b, e1, e2, e3, e4, h'⟩ := st x List.mem_cons_self A h
    cases b with
    | false =>
      obtain ⟨ys, A', e5, hp, hs⟩ := lcGo_sub xs acc (wipeE A2 vs) h' (fun z hz => st z (List.mem_cons_of_mem _ hz)) (by omega)
      refine ⟨ys, A', ?_, hp, hs.cons x⟩
      unfold lcGo
      simp only [e1, Ot.nx, bind_ok, e2, if_true, e3, bo]
      exact e5
    | true =>
      obtain ⟨ys, A', e5, hp, hs⟩ := lcGo_sub xs (acc ++ [x]) (wipeE A2 vs) h' (fun z hz => st z (List.mem_cons_of_mem _ hz)) (by rw [List.length_append, List.length_singleton]; omega)
      refine ⟨x :: ys, A', ?_, hp, hs.cons₂ x⟩
      unfold lcGo
      have hlt : acc.length < sizeLine := by omega
      simp only [e1, Ot.nx, bind_ok, e2, if_true, e3, bo, e4 rfl, hlt]
      rw [e5, List.append_assoc]
      rfl
theorem PL_sub {qs : List D} {ps : List (Int × Int)} (h : qs.Sublist (PL ps)) : ∃ rs, qs = PL rs ∧ rs.Sublist ps := by
  unfold PL at h
  obtain ⟨rs, h1, h2⟩ := List.sublist_map_iff.mp h
  exact ⟨rs, h2, h1⟩
theorem isW_all {n : Nat} : ∀ {xs : List D}, xs.all (isW 0 ((n : Int) - 1)) = true → ∃ is : List Int, xs = IL is ∧ ∀ i ∈ is, 0 ≤ i ∧ i < n
  | [], _ => ⟨[], rfl, fun i hi => by cases hi⟩
  | x :: xs, h => by
    rw [List.all_cons] at h
    obtain ⟨h1, h2⟩ := (Bool.and_eq_true _ _).mp h
    obtain ⟨i, rfl, i1, i2⟩ := isW_int h1
    obtain ⟨is, rfl, hr⟩ := isW_all h2
    refine ⟨i :: is, rfl, fun j hj => ?_⟩
    rcases List.mem_cons.mp hj with rfl | hj
    · omega
    · exact hr j hj
theorem gSort_IL (ns : List Int) : ∃ ss, gSortedA [.list (IL ns)] = some (.lst (IL ss)) ∧ ss.Perm ns := by
  obtain ⟨ss, e⟩ := IL_back (xs := isort (IL ns)) fun x hx => by
    obtain ⟨i, _, e⟩ := List.mem_map.mp (isort_mem.mp hx)
    exact ⟨i, e.symm⟩
  refine ⟨ss, ?_, ?_⟩
  · have hk : srtOk (IL ns) = true := by
      unfold srtOk
      simp only [Bool.and_eq_true, Bool.or_eq_true, List.all_eq_true, decide_eq_true_eq]
      refine ⟨⟨fun x hx y hy => ?_, .inr fun x hx => ?_⟩, fun x hx => ?_⟩
      · obtain ⟨p, _, rfl⟩ := List.mem_map.mp hx
        obtain ⟨q, _, rfl⟩ := List.mem_map.mp hy
        simp [W.alike]
      · obtain ⟨p, _, rfl⟩ := List.mem_map.mp hx
        rfl
      · obtain ⟨p, _, rfl⟩ := List.mem_map.mp hx
        simp [PyData.depth]
    show gSorted [.list (IL ns)] = _
    unfold gSorted
    simp only [hk, if_true, e]
  · have pm := isort_perm (IL ns)
    rw [e] at pm
    have := pm.map unI
    unfold IL at this
    rw [List.map_map, List.map_map] at this
    have id1 : ∀ l : List Int, l.map (unI ∘ PyData.int) = l := fun l => by
      induction l with
      | nil => rfl
      | cons a l ih => rw [List.map_cons, ih]; rfl
    rw [id1, id1] at this
    exact this
theorem wt_IL : ∀ ns : List Int, wtA (IL ns) = 7 * ns.length
  | [] => rfl
  | n :: ns => by
    show wt (.int n) + 2 + wtA (IL ns) = _
    rw [wt_IL ns, List.length_cons, show wt (.int n) = 5 from rfl]
    omega
theorem up_get {k i : Nat} {ys : List D} {x : D} (hl : ys.length = (IL (upI k)).length) (hi : ys[i]? = some x) : ∃ u, (IL (upI k))[i]? = some u := by
  have := (List.getElem?_eq_some_iff.mp hi).1
  exact ⟨_, List.getElem?_eq_getElem (by omega)⟩
end My
set_option maxHeartbeats 2000000
namespace My
open PySem PySem.Spec PyProof.Rows L2 Mp RZ
theorem base_PLc {ps : List (Int × Int)} (h : ∀ q ∈ ps, 0 ≤ q.1 ∧ q.1 ≤ 10 ∧ 0 ≤ q.2 ∧ q.2 ≤ 10) : baseA 60 (PL ps) = true ∧ wtA (PL ps) ≤ 25 * ps.length := by
  induction ps with
  | nil => exact ⟨rfl, Nat.le_refl _⟩
  | cons q ps ih =>
    obtain ⟨i1, i2⟩ := ih fun r hr => h r (List.mem_cons_of_mem _ hr)
    have hq := h q List.mem_cons_self
    refine ⟨?_, ?_⟩
    · show (base 60 (pr q) && baseA 60 (PL ps)) = true
      rw [i1, Bool.and_true]
      simp [pr, base, baseA]
      omega
    · show wt (pr q) + 2 + wtA (PL ps) ≤ _
      have : wt (pr q) = 17 := rfl
      rw [List.length_cons]
      omega
theorem base_ILc {ns : List Int} (h : ∀ i ∈ ns, 0 ≤ i ∧ i ≤ 10) : baseA 60 (IL ns) = true := by
  induction ns with
  | nil => rfl
  | cons i ns ih =>
    have hi := h i List.mem_cons_self
    show (base 60 (.int i) && baseA 60 (IL ns)) = true
    rw [ih fun j hj => h j (List.mem_cons_of_mem _ hj), Bool.and_true]
    simp [base]
    omega
theorem depth_ILc : ∀ ns : List Int, PyData.depthAll (IL ns) ≤ 1
  | [] => by simp [IL, PyData.depthAll]
  | i :: ns => by
    have := depth_ILc ns
    show max (PyData.depth (.int i)) (PyData.depthAll (IL ns)) ≤ 1
    have h2 : PyData.depth (.int i) = 1 ∨ PyData.depth (.int i) = 0 := by simp [PyData.depth]
    omega
/-- repr of a list of two -/
theorem rep_two {A B : D} (hA : base 60 A = true) (hB : base 60 B = true) (wA : wt A ≤ 2000) (wB : wt B ≤ 2000) (dA : PyData.depth A ≤ 10) (dB : PyData.depth B ≤ 10) : ∃ s : Str, gReprD [.list [A, B]] = some (.d (.str s)) := by
  obtain ⟨a1, _, _, a4⟩ := base_nice hA
  obtain ⟨b1, _, _, b4⟩ := base_nice hB
  have f : Fine 60 5000 20 (.list [A, B]) := fine_lst (fun x hx => by simp at hx; rcases hx with rfl | rfl; exact a1; exact b1) (by simp) (by show wt A + 2 + (wt B + 2 + 0) + 3 ≤ _; omega)
    (fun x hx => by simp at hx; rcases hx with rfl | rfl <;> omega) (by omega) (fun x hx => by simp at hx; rcases hx with rfl | rfl; exact a4; exact b4)
  exact ⟨_, gRepr_fine f (by omega) (by omega) (by omega)⟩
theorem base_PT {ps : List (Int × Int)} (h : ∀ q ∈ ps, 0 ≤ q.1 ∧ q.1 ≤ 10 ∧ 0 ≤ q.2 ∧ q.2 ≤ 10) (hl : ps.length ≤ 60) : base 60 (.tuple (PL ps)) = true ∧ wt (.tuple (PL ps)) ≤ 2000 ∧ PyData.depth (.tuple (PL ps)) ≤ 10 := by
  obtain ⟨i1, i2⟩ := base_PLc h
  have d := depth_PL ps
  refine ⟨?_, ?_, ?_⟩
  · unfold base
    rw [i1, PL_len, Bool.and_true]
    exact decide_eq_true hl
  · show wtA (PL ps) + 3 ≤ _
    omega
  · unfold PyData.depth
    omega
theorem base_IT {ns : List Int} (h : ∀ i ∈ ns, 0 ≤ i ∧ i ≤ 10) (hl : ns.length ≤ 60) : base 60 (.tuple (IL ns)) = true ∧ wt (.tuple (IL ns)) ≤ 2000 ∧ PyData.depth (.tuple (IL ns)) ≤ 10 := by
  have i1 := base_ILc h
  have d := depth_ILc ns
  refine ⟨?_, ?_, ?_⟩
  · unfold base
    rw [i1, IL_len, Bool.and_true]
    exact decide_eq_true hl
  · show wtA (IL ns) + 3 ≤ _
    rw [wt_IL]
    omega
  · unfold PyData.depth
    omega
theorem gNe_same {d : D} (h : d.plain = true) (h2 : PyData.depth d ≤ 20) : gNe d d = some (.d (.bool false)) := by
  unfold gNe
  have hs : shal d = true := by unfold shal; exact decide_eq_true (by omega)
  rw [h, hs, PySem.SeqAt.eqv_refl_plain d h]
  rfl
/-- a sorted list of ints, told by its members -/
theorem sort_uniq {L ms : List Int} (h : L.Perm ms) (hs : ms.Pairwise (· ≤ ·)) : gSortedA [.list (IL L)] = some (.lst (IL ms)) := by
  obtain ⟨ss, e, _⟩ := gSort_IL L
  have es2 : isort (IL L) = IL ss := by
    have e3 : gSortedA [.list (IL L)] = gSorted [.list (IL L)] := rfl
    rw [e3] at e
    unfold gSorted at e
    simp only at e
    split at e
    · injection e with e
      injection e
    · cases e
  rw [e, ← es2]
  congr 2
  have p : (isort (IL L)).Perm (IL ms) := (isort_perm _).trans (by unfold IL; exact h.map _)
  refine List.Perm.eq_of_pairwise (le := fun a b => leD a b = true) (fun a b ha hb h1 h2 => ?_) (isort_sorted _) ?_ p
  · have hb' : b ∈ isort (IL L) := by first | exact p.mem_iff.mpr hb | exact hb
    exact int_anti a (isort_mem.mp ha) b (isort_mem.mp hb') h1 h2
  · unfold IL
    refine List.pairwise_map.mpr (hs.imp fun {a b} hab => ?_)
    rw [leD_int]
    exact decide_eq_true hab
end My
set_option maxHeartbeats 2000000
namespace My
open PySem PySem.Spec PyProof.Rows L2 Mp RZ
def RT (a b : Int) (n : Nat) (ps : List (Int × Int)) (v2 v4 v5 v6 v7 v8 v9 v10 v11 v12 v13 v14 v15 v16 : Option Vl) : Mp.Env := [PotV a b, some (.d (O n ps)), v2, some (.d (.int n)), v4, v5, v6, v7, v8, v9, v10, v11, v12, v13, v14, v15, v16, none]
/-- is anybody between -/
theorem r_c1 {n : Nat} (hn : n ≤ 10) (ps : List (Int × Int)) (a b i j : Int) (v2 v4 v7 v8 v9 v10 v11 v12 v13 v14 v15 v16 : Option Vl) : _law_right_c1 (RT a b n ps v2 v4 (some (.d (.int i))) (some (.d (.int j))) v7 v8 v9 v10 v11 v12 v13 v14 v15 v16) =
    .ok (.new (.lst ((IL (upI n)).map fun x => .bool (decide ((i, unI x) ∈ ps) && decide ((unI x, j) ∈ ps)))), RT a b n ps v2 v4 (some (.d (.int i))) (some (.d (.int j))) v7 v8 v9 v10 v11 v12 v13 v14 v15 v16) := by
  have r1 : mRange rg1 [mV 3] (RT a b n ps v2 v4 (some (.d (.int i))) (some (.d (.int j))) v7 v8 v9 v10 v11 v12 v13 v14 v15 v16) = _ := range1 (n := n) (by omega) rfl
  unfold _law_right_c1
  have := mLc_pure (n := 18) (g := gNm (outs 18 [17]) 17) (tt := mYes) (te := mAnd (mOp2 gInA (mTup [(mD (mV 5)), (mD (mV 17))]) (mIxA (mV 1) (mK (.int 2)))) (mOp2 gInA (mTup [(mD (mV 17)), (mD (mV 6))]) (mIxA (mV 1) (mK (.int 2))))) (vs := [17]) r1 rfl
    (p := fun _ => true) (h := fun x => .bool (decide ((i, unI x) ∈ ps) && decide ((unI x, j) ∈ ps))) (fun y hy => ?_) (by rw [IL_len, upI_len, sizeLine_eq]; omega)
  · rw [filter_tt] at this
    exact this
  · obtain ⟨z, hz, rfl⟩ := List.mem_map.mp hy
    refine ⟨[PotV a b, some (.d (O n ps)), v2, some (.d (.int n)), v4, some (.d (.int i)), some (.d (.int j)), v7, v8, v9, v10, v11, v12, v13, v14, v15, v16, some (.d (.int z))], rfl, rfl, rfl, rfl, fun _ => ?_⟩
    have i1 : gInA (.tuple [.int i, .int z]) (.tuple (PL ps)) = some (.d (.bool (decide ((i, z) ∈ ps)))) := gIn_PT ps (i, z)
    have i2 : gInA (.tuple [.int z, .int j]) (.tuple (PL ps)) = some (.d (.bool (decide ((z, j) ∈ ps)))) := gIn_PT ps (z, j)
    show _ = Ot.ok (Rs.d (.bool (decide ((i, z) ∈ ps) && decide ((z, j) ∈ ps))), _)
    unfold O PotV
    by_cases h : (i, z) ∈ ps
    · rw [decide_eq_true h] at i1 ⊢
      by_cases h2 : (z, j) ∈ ps
      · rw [decide_eq_true h2] at i2 ⊢
        simp [ioOk, Vl.owned, startE, mSeq, mIfS, mOp2, mIxA, mV, lk, mK, ixR, sq, pk, Bx.ok, Bx.x, atI, ixN, ofSum, bo, Res.rs, mAsg, gTp, gs1, gs0, gSbA, stB, gNm, mD, fz, mB, mAs, pks, mRet, finF, resF, outsF, outI, gAdd, Mp.gSub, gMod, gDiv, gMulA, gInt, gDivmod, mSkip, mAnd, mOr, mNot, mBr, mIf, mExpr, gGt_int, gLt_int, gLe_int, gEq_int, gNe_int, Ot.bind, mCall, argV, argV1, varsR, nodupN, putO, mCh, mLen, lenR, mSet, asV, mTup, mLst, allD, mIsA, okIs, known, isTy, tyD, runF, mPar, parE, asN, mFz, i1, i2]
      · rw [decide_eq_false h2] at i2 ⊢
        simp [ioOk, Vl.owned, startE, mSeq, mIfS, mOp2, mIxA, mV, lk, mK, ixR, sq, pk, Bx.ok, Bx.x, atI, ixN, ofSum, bo, Res.rs, mAsg, gTp, gs1, gs0, gSbA, stB, gNm, mD, fz, mB, mAs, pks, mRet, finF, resF, outsF, outI, gAdd, Mp.gSub, gMod, gDiv, gMulA, gInt, gDivmod, mSkip, mAnd, mOr, mNot, mBr, mIf, mExpr, gGt_int, gLt_int, gLe_int, gEq_int, gNe_int, Ot.bind, mCall, argV, argV1, varsR, nodupN, putO, mCh, mLen, lenR, mSet, asV, mTup, mLst, allD, mIsA, okIs, known, isTy, tyD, runF, mPar, parE, asN, mFz, i1, i2]
    · rw [decide_eq_false h] at i1 ⊢
      simp [ioOk, Vl.owned, startE, mSeq, mIfS, mOp2, mIxA, mV, lk, mK, ixR, sq, pk, Bx.ok, Bx.x, atI, ixN, ofSum, bo, Res.rs, mAsg, gTp, gs1, gs0, gSbA, stB, gNm, mD, fz, mB, mAs, pks, mRet, finF, resF, outsF, outI, gAdd, Mp.gSub, gMod, gDiv, gMulA, gInt, gDivmod, mSkip, mAnd, mOr, mNot, mBr, mIf, mExpr, gGt_int, gLt_int, gLe_int, gEq_int, gNe_int, Ot.bind, mCall, argV, argV1, varsR, nodupN, putO, mCh, mLen, lenR, mSet, asV, mTup, mLst, allD, mIsA, okIs, known, isTy, tyD, runF, mPar, parE, asN, mFz, i1]
/-- the law's own neighbours -/
theorem r_near {n : Nat} {ps : List (Int × Int)} (h : Ordr n ps) (a b : Int) (v2 v5 v6 v7 v8 v9 v10 v11 v12 v13 v14 v15 v16 : Option Vl) : ∃ y5 y6, _law_right_l1 (RT a b n ps v2 (some (.own (.lst []))) v5 v6 v7 v8 v9 v10 v11 v12 v13 v14 v15 v16) =
    .ok (.next, RT a b n ps v2 (some (.own (.lst (PL (nbR n ps))))) y5 y6 v7 v8 v9 v10 v11 v12 v13 v14 v15 v16) := by
  have hn := h.hi
  have hl := h.len
  obtain ⟨ρ', e, y5, y6, rfl⟩ := forGo_inv (g := gTp 2 (gs1 (gNm [0] 5) (gs1 (gNm [0] 6) gs0))) (b := _law_right_b1) (fun i ρ => ∃ y5 y6, ρ = RT a b n ps v2 (some (.own (.lst (PL ((ps.take i).filter fun q => !nbT n ps q))))) y5 y6 v7 v8 v9 v10 v11 v12 v13 v14 v15 v16)
    (PL ps) 0 (RT a b n ps v2 (some (.own (.lst (PL [])))) v5 v6 v7 v8 v9 v10 v11 v12 v13 v14 v15 v16) ⟨v5, v6, rfl⟩ fun i x ρ hx ⟨y5, y6, eρ⟩ => by
      subst eρ
      rw [Nat.zero_add]
      unfold PL at hx
      rw [List.getElem?_map] at hx
      obtain ⟨⟨c, d⟩, hq, rfl⟩ := Option.map_eq_some_iff.mp hx
      have ec := r_c1 (n := n) (by omega) ps a b c d v2 (some (.own (.lst (PL ((ps.take i).filter fun q => !nbT n ps q))))) v7 v8 v9 v10 v11 v12 v13 v14 v15 v16
      have ga := gAny_map (IL (upI n)) (fun x => decide ((c, unI x) ∈ ps) && decide ((unI x, d) ∈ ps))
      rw [any_IL (upI n) (fun z => decide ((c, z) ∈ ps) && decide ((z, d) ∈ ps))] at ga
      have ga' : gAny [.list ((IL (upI n)).map fun x => .bool (decide ((c, unI x) ∈ ps) && decide ((unI x, d) ∈ ps)))] = some (.d (.bool (nbT n ps (c, d)))) := ga
      generalize ((IL (upI n)).map fun x => PyData.bool (decide ((c, unI x) ∈ ps) && decide ((unI x, d) ∈ ps))) = Z at ec ga'
      have hzl : ((ps.take i).filter fun q => !nbT n ps q).length ≤ 100 := Nat.le_trans (List.length_filter_le _ _) (by rw [List.length_take]; omega)
      have ap : PL (((ps.take i).filter fun q => !nbT n ps q) ++ [(c, d)]) = PL ((ps.take i).filter fun q => !nbT n ps q) ++ [.tuple [.int c, .int d]] := by
        rw [PL_app]
        rfl
      have et : (ps.take (i + 1)).filter (fun q => !nbT n ps q) = ((ps.take i).filter fun q => !nbT n ps q) ++ (if nbT n ps (c, d) then [] else [(c, d)]) := by
        rw [take_snoc hq, List.filter_append]
        congr 1
        cases hb : nbT n ps (c, d) <;> simp [List.filter, hb]
      have z1 : (PL ((ps.take i).filter fun q => !nbT n ps q)).length + 1 ≤ 16777216 := by rw [PL_len]; omega
      have z2 : (PL ((ps.take i).filter fun q => !nbT n ps q)).length ≤ 16777216 := by omega
      refine ⟨RT a b n ps v2 (some (.own (.lst (PL ((ps.take (i + 1)).filter fun q => !nbT n ps q))))) (some (.d (.int c))) (some (.d (.int d))) v7 v8 v9 v10 v11 v12 v13 v14 v15 v16, .next, ?_, .inl rfl, _, _, rfl⟩
      rw [show gTp 2 (gs1 (gNm [0] 5) (gs1 (gNm [0] 6) gs0)) (pr (c, d)) (RT a b n ps v2 (some (.own (.lst (PL ((ps.take i).filter fun q => !nbT n ps q))))) y5 y6 v7 v8 v9 v10 v11 v12 v13 v14 v15 v16) = .ok (RT a b n ps v2 (some (.own (.lst (PL ((ps.take i).filter fun q => !nbT n ps q))))) (some (.d (.int c))) (some (.d (.int d))) v7 v8 v9 v10 v11 v12 v13 v14 v15 v16) from rfl, et]
      unfold _law_right_b1
      generalize hM : _law_right_c1 = M at ec
      cases hb : nbT n ps (c, d)
      · rw [hb] at ga'
        simp only [Bool.false_eq_true, if_false]
        rw [ap]
        unfold RT PotV at ec ⊢
        generalize PL ((ps.take i).filter fun q => !nbT n ps q) = Y at *
        generalize O n ps = o at *
        simp [ioOk, Vl.owned, startE, mSeq, mIfS, mOp2, mIxA, mV, lk, mK, ixR, sq, pk, Bx.ok, Bx.x, atI, ixN, ofSum, bo, Res.rs, mAsg, gTp, gs1, gs0, gSbA, stB, gNm, mD, fz, mB, mAs, pks, mRet, finF, resF, outsF, outI, gAdd, Mp.gSub, gMod, gDiv, gMulA, gInt, gDivmod, mSkip, mAnd, mOr, mNot, mBr, mIf, mExpr, gGt_int, gLt_int, gLe_int, gEq_int, gNe_int, Ot.bind, mCall, argV, argV1, varsR, nodupN, putO, mCh, mLen, lenR, mSet, asV, mTup, mLst, allD, mIsA, okIs, known, isTy, tyD, runF, mPar, parE, asN, mFz, ec, ga', sizeLine_eq, z1]
      · rw [hb] at ga'
        simp only [if_true, List.append_nil]
        unfold RT PotV at ec ⊢
        generalize PL ((ps.take i).filter fun q => !nbT n ps q) = Y at *
        generalize O n ps = o at *
        simp [ioOk, Vl.owned, startE, mSeq, mIfS, mOp2, mIxA, mV, lk, mK, ixR, sq, pk, Bx.ok, Bx.x, atI, ixN, ofSum, bo, Res.rs, mAsg, gTp, gs1, gs0, gSbA, stB, gNm, mD, fz, mB, mAs, pks, mRet, finF, resF, outsF, outI, gAdd, Mp.gSub, gMod, gDiv, gMulA, gInt, gDivmod, mSkip, mAnd, mOr, mNot, mBr, mIf, mExpr, gGt_int, gLt_int, gLe_int, gEq_int, gNe_int, Ot.bind, mCall, argV, argV1, varsR, nodupN, putO, mCh, mLen, lenR, mSet, asV, mTup, mLst, allD, mIsA, okIs, known, isTy, tyD, runF, mPar, parE, asN, mFz, ec, ga', sizeLine_eq, z2]
  rw [Nat.zero_add, PL_len, List.take_length] at e
  refine ⟨y5, y6, ?_⟩
  have hi : mIt (mIxA (mV 1) (mK (.int 2))) (RT a b n ps v2 (some (.own (.lst []))) v5 v6 v7 v8 v9 v10 v11 v12 v13 v14 v15 v16) = .ok (PL ps, RT a b n ps v2 (some (.own (.lst []))) v5 v6 v7 v8 v9 v10 v11 v12 v13 v14 v15 v16) := by
    unfold RT PotV O
    simp [ioOk, Vl.owned, startE, mSeq, mIfS, mOp2, mIxA, mV, lk, mK, ixR, sq, pk, Bx.ok, Bx.x, atI, ixN, ofSum, bo, Res.rs, mAsg, gTp, gs1, gs0, gSbA, stB, gNm, mD, fz, mB, mAs, pks, mRet, finF, resF, outsF, outI, gAdd, Mp.gSub, gMod, gDiv, gMulA, gInt, gDivmod, mSkip, mAnd, mOr, mNot, mBr, mIf, mExpr, gGt_int, gLt_int, gLe_int, gEq_int, gNe_int, Ot.bind, mCall, argV, argV1, varsR, nodupN, putO, mCh, mLen, lenR, mSet, asV, mTup, mLst, allD, mIsA, okIs, known, isTy, tyD, runF, mPar, parE, asN, mFz, mIt, seqD]
  unfold _law_right_l1 mFor
  rw [hi]
  exact e
end My
set_option maxHeartbeats 2000000
namespace My
open PySem PySem.Spec PyProof.Rows L2 Mp RZ
theorem eqvAll_PL : ∀ ps qs : List (Int × Int), PyData.eqvAll (PL ps) (PL qs) = decide (ps = qs)
  | [], [] => by simp [PL, PyData.eqvAll]
  | [], _ :: _ => by simp [PL, PyData.eqvAll]
  | _ :: _, [] => by simp [PL, PyData.eqvAll]
  | p :: ps, q :: qs => by
    have h1 := eqvAll_PL ps qs
    have h2 := pr_eqv p q
    show PyData.eqvAll (pr p :: PL ps) (pr q :: PL qs) = _
    unfold PyData.eqvAll
    rw [h1, h2, Bool.eq_iff_iff]
    simp
theorem gEq_OO (n : Int) (ps qs : List (Int × Int)) : gEq (O n ps) (O n qs) = some (.d (.bool (decide (ps = qs)))) := by
  have h1 := plain_O n ps
  have h2 := plain_O n qs
  have h3 := shal_O n ps
  unfold gEq
  rw [h1, h2, h3]
  unfold O
  simp [PyData.eqv, PyData.eqvAll, eqvAll_PL]
theorem gNe_pr (p q : Int × Int) : gNe (pr p) (pr q) = some (.d (.bool (!decide (p = q)))) := by
  unfold gNe
  rw [pr_eqv]
  have h : ((pr p).plain && (pr q).plain && shal (pr p)) = true := by simp [pr, PyData.plain, PyData.plainAll, shal, PyData.depth, PyData.depthAll]
  rw [if_pos h]
theorem Ordr.len45 {n : Nat} {ps : List (Int × Int)} (h : Ordr n ps) : ps.length ≤ 45 :=
  few_strict (n := n) (by have := h.hi; omega) (L := fun x y => (x, y) ∈ ps) ⟨h.irr, h.tr⟩ (fun x y hq => ⟨h.inr _ hq, hq⟩) (rise_nodup h.rise)
theorem r_c2 {n : Nat} {ps nb : List (Int × Int)} (hl : nb.length ≤ 1000) (q : Int × Int) (a b : Int) (v2 v5 v6 v8 v9 v10 v11 v12 v13 v14 v15 v16 : Option Vl) : _law_right_c2 (RT a b n ps v2 (some (.d (.tuple (PL nb)))) v5 v6 (some (.d (pr q))) v8 v9 v10 v11 v12 v13 v14 v15 v16) =
    .ok (.new (.lst (PL (nb.filter fun r => !decide (r = q)))), RT a b n ps v2 (some (.d (.tuple (PL nb)))) v5 v6 (some (.d (pr q))) v8 v9 v10 v11 v12 v13 v14 v15 v16) := by
  unfold _law_right_c2
  have := mLc_pure (n := 18) (it := mIt (mV 4)) (g := gNm (outs 18 [10]) 10) (tt := mOp2 gNe (mV 10) (mV 7)) (te := mV 10) (vs := [10])
    (ρ := RT a b n ps v2 (some (.d (.tuple (PL nb)))) v5 v6 (some (.d (pr q))) v8 v9 v10 v11 v12 v13 v14 v15 v16) (ρ1 := RT a b n ps v2 (some (.d (.tuple (PL nb)))) v5 v6 (some (.d (pr q))) v8 v9 v10 v11 v12 v13 v14 v15 v16)
    (xs := PL nb) (p := fun x => !decide (unpr x = q)) (h := fun x => pr (unpr x)) (by unfold RT PotV; simp [ioOk, Vl.owned, startE, mSeq, mIfS, mOp2, mIxA, mV, lk, mK, ixR, sq, pk, Bx.ok, Bx.x, atI, ixN, ofSum, bo, Res.rs, mAsg, gTp, gs1, gs0, gSbA, stB, gNm, mD, fz, mB, mAs, pks, mRet, finF, resF, outsF, outI, gAdd, Mp.gSub, gMod, gDiv, gMulA, gInt, gDivmod, mSkip, mAnd, mOr, mNot, mBr, mIf, mExpr, gGt_int, gLt_int, gLe_int, gEq_int, gNe_int, Ot.bind, mCall, argV, argV1, varsR, nodupN, putO, mCh, mLen, lenR, mSet, asV, mTup, mLst, allD, mIsA, okIs, known, isTy, tyD, runF, mPar, parE, asN, mFz, mIt, seqD]) rfl (fun x hx => ?_) (by rw [PL_len, sizeLine_eq]; omega)
  · rw [this, PL_fm nb (fun r => !decide (r = q)) (fun r => pr r)]
    rfl
  · obtain ⟨r, hr, rfl⟩ := List.mem_map.mp hx
    have g := gNe_pr r q
    refine ⟨RT a b n ps v2 (some (.d (.tuple (PL nb)))) v5 v6 (some (.d (pr q))) v8 v9 (some (.d (pr r))) v11 v12 v13 v14 v15 v16, rfl, rfl, ?_, rfl, fun _ => by rw [unpr_pr]; rfl⟩
    rw [unpr_pr]
    unfold RT PotV
    generalize pr r = x at *
    generalize pr q = y at *
    simp [ioOk, Vl.owned, startE, mSeq, mIfS, mOp2, mIxA, mV, lk, mK, ixR, sq, pk, Bx.ok, Bx.x, atI, ixN, ofSum, bo, Res.rs, mAsg, gTp, gs1, gs0, gSbA, stB, gNm, mD, fz, mB, mAs, pks, mRet, finF, resF, outsF, outI, gAdd, Mp.gSub, gMod, gDiv, gMulA, gInt, gDivmod, mSkip, mAnd, mOr, mNot, mBr, mIf, mExpr, gGt_int, gLt_int, gLe_int, gEq_int, gNe_int, Ot.bind, mCall, argV, argV1, varsR, nodupN, putO, mCh, mLen, lenR, mSet, asV, mTup, mLst, allD, mIsA, okIs, known, isTy, tyD, runF, mPar, parE, asN, mFz, g]
/-- without one of the neighbours -/
theorem r_less {n : Nat} {ps : List (Int × Int)} (h : Ordr n ps) {q : Int × Int} (hq : q ∈ nbR n ps) (a b : Int) (v2 v5 v6 v8 v9 v10 v11 v12 v13 v14 v15 v16 : Option Vl) : ∃ y8, _law_right_b2 (RT a b n ps v2 (some (.d (.tuple (PL (nbR n ps))))) v5 v6 (some (.d (pr q))) v8 v9 v10 v11 v12 v13 v14 v15 v16) =
    .ok (.next, RT a b n ps v2 (some (.d (.tuple (PL (nbR n ps))))) v5 v6 (some (.d (pr q))) y8 v9 v10 v11 v12 v13 v14 v15 v16) := by
  have hlo := h.lo
  have hhi := h.hi
  have hl := h.len45
  have hnl : (nbR n ps).length ≤ 45 := Nat.le_trans (List.length_filter_le _ _) hl
  have hs : ∀ r ∈ (nbR n ps).filter (fun r => !decide (r = q)), r ∈ ps := fun r hr => nb_sub r (List.mem_filter.mp hr).1
  have hfl : ((nbR n ps).filter fun r => !decide (r = q)).length ≤ 45 := Nat.le_trans (List.length_filter_le _ _) hnl
  obtain ⟨rs, ho, hm, e⟩ := f_order_any (n := n) (w := .list (PL ((nbR n ps).filter fun r => !decide (r = q)))) (by omega) (fun r hr => h.inr r (hs r hr)) (fun x hx => h.irr x (hs _ hx)) (by omega)
    (fun z => by have := succ_len ((nbR n ps).filter fun r => !decide (r = q)) z; omega) (fun x hx => h.irr x (rch_sub hs h.tr hx)) (v := .own (.lst (PL ((nbR n ps).filter fun r => !decide (r = q))))) ⟨.inl rfl, .inr ⟨rfl, rfl⟩⟩
  have hn : q ∉ rs := fun hx => nb_less h.inr h.tr (a := q.1) (b := q.2) hq _ (by simp) ((hm q.1 q.2).mp hx)
  have hne : rs ≠ ps := fun e => hn (by rw [e]; exact nb_sub q hq)
  have g1 := gEq_OO n rs ps
  rw [decide_eq_false hne] at g1
  have g2 := gIn_PT rs q
  rw [decide_eq_false hn] at g2
  have ec := r_c2 (n := n) (ps := ps) (nb := nbR n ps) (by omega) q a b v2 v5 v6 v8 v9 v10 v11 v12 v13 v14 v15 v16
  refine ⟨some (.d (O n rs)), ?_⟩
  unfold _law_right_b2
  generalize hM : _law_right_c2 = M at ec
  unfold RT PotV at ec ⊢
  generalize PL (nbR n ps) = nb at *
  generalize PL ((nbR n ps).filter fun r => !decide (r = q)) = nb' at *
  unfold O at *
  generalize pr q = pq at *
  generalize PL rs = prs at *
  generalize PL ps = pps at *
  simp [ioOk, Vl.owned, startE, mSeq, mIfS, mOp2, mIxA, mV, lk, mK, ixR, sq, pk, Bx.ok, Bx.x, atI, ixN, ofSum, bo, Res.rs, mAsg, gTp, gs1, gs0, gSbA, stB, gNm, mD, fz, mB, mAs, pks, mRet, finF, resF, outsF, outI, gAdd, Mp.gSub, gMod, gDiv, gMulA, gInt, gDivmod, mSkip, mAnd, mOr, mNot, mBr, mIf, mExpr, gGt_int, gLt_int, gLe_int, gEq_int, gNe_int, Ot.bind, mCall, argV, argV1, varsR, nodupN, putO, mCh, mLen, lenR, mSet, asV, mTup, mLst, allD, mIsA, okIs, known, isTy, tyD, runF, mPar, parE, asN, mFz, ec, e, g1, gIs, isNone, g2]
theorem r_lesses {n : Nat} {ps : List (Int × Int)} (h : Ordr n ps) (a b : Int) (v2 v5 v6 v7 v8 v9 v10 v11 v12 v13 v14 v15 v16 : Option Vl) : ∃ y7 y8, _law_right_l2 (RT a b n ps v2 (some (.d (.tuple (PL (nbR n ps))))) v5 v6 v7 v8 v9 v10 v11 v12 v13 v14 v15 v16) =
    .ok (.next, RT a b n ps v2 (some (.d (.tuple (PL (nbR n ps))))) v5 v6 y7 y8 v9 v10 v11 v12 v13 v14 v15 v16) := by
  obtain ⟨ρ', e, y7, y8, rfl⟩ := forGo_inv (g := gNm [0] 7) (b := _law_right_b2) (fun i ρ => ∃ y7 y8, ρ = RT a b n ps v2 (some (.d (.tuple (PL (nbR n ps))))) v5 v6 y7 y8 v9 v10 v11 v12 v13 v14 v15 v16)
    (PL (nbR n ps)) 0 (RT a b n ps v2 (some (.d (.tuple (PL (nbR n ps))))) v5 v6 v7 v8 v9 v10 v11 v12 v13 v14 v15 v16) ⟨v7, v8, rfl⟩ fun i x ρ hx ⟨y7, y8, eρ⟩ => by
      subst eρ
      obtain ⟨q, hq, rfl⟩ := List.mem_map.mp (List.mem_of_getElem? hx)
      obtain ⟨z8, e⟩ := r_less h hq a b v2 v5 v6 y8 v9 v10 v11 v12 v13 v14 v15 v16
      exact ⟨_, .next, e, .inl rfl, _, _, rfl⟩
  refine ⟨y7, y8, ?_⟩
  have hi : mIt (mV 4) (RT a b n ps v2 (some (.d (.tuple (PL (nbR n ps))))) v5 v6 v7 v8 v9 v10 v11 v12 v13 v14 v15 v16) = .ok (PL (nbR n ps), RT a b n ps v2 (some (.d (.tuple (PL (nbR n ps))))) v5 v6 v7 v8 v9 v10 v11 v12 v13 v14 v15 v16) := by
    unfold RT PotV
    simp [ioOk, Vl.owned, startE, mSeq, mIfS, mOp2, mIxA, mV, lk, mK, ixR, sq, pk, Bx.ok, Bx.x, atI, ixN, ofSum, bo, Res.rs, mAsg, gTp, gs1, gs0, gSbA, stB, gNm, mD, fz, mB, mAs, pks, mRet, finF, resF, outsF, outI, gAdd, Mp.gSub, gMod, gDiv, gMulA, gInt, gDivmod, mSkip, mAnd, mOr, mNot, mBr, mIf, mExpr, gGt_int, gLt_int, gLe_int, gEq_int, gNe_int, Ot.bind, mCall, argV, argV1, varsR, nodupN, putO, mCh, mLen, lenR, mSet, asV, mTup, mLst, allD, mIsA, okIs, known, isTy, tyD, runF, mPar, parE, asN, mFz, mIt, seqD]
  unfold _law_right_l2 mFor
  rw [hi]
  exact e
end My
set_option maxHeartbeats 2000000
namespace My
open PySem PySem.Spec PyProof.Rows L2 Mp RZ
/-- the pairs apart whose first runner is below k -/
def apA (ps : List (Int × Int)) (n : Nat) : Nat → List (Int × Int)
  | 0 => []
  | k + 1 => apA ps n k ++ apR ps n (k : Int)
theorem apR_len {ps : List (Int × Int)} {n i : Nat} (h : i < n) : (apR ps n i).length + 1 ≤ n := by
  unfold apR
  rw [List.length_map]
  have := List.length_filter_le (fun y => decide (Apart ps (i : Int) y)) (upF ((i : Int) + 1) ((n : Int) - ((i : Int) + 1)).toNat)
  have h2 : (upF ((i : Int) + 1) ((n : Int) - ((i : Int) + 1)).toNat).length = ((n : Int) - ((i : Int) + 1)).toNat := by unfold upF; rw [List.length_map, List.length_range]
  omega
theorem apA_len {ps : List (Int × Int)} {n : Nat} : ∀ k, k ≤ n → (apA ps n k).length ≤ k * (n - 1)
  | 0, _ => by simp [apA]
  | k + 1, h => by
    have i1 := apA_len (ps := ps) (n := n) k (by omega)
    have i2 := apR_len (ps := ps) (n := n) (i := k) (by omega)
    unfold apA
    rw [List.length_append, Nat.succ_mul]
    omega
theorem apA_mem {ps : List (Int × Int)} {n : Nat} : ∀ k, k ≤ n → ∀ q ∈ apA ps n k, 0 ≤ q.1 ∧ q.1 < n ∧ 0 ≤ q.2 ∧ q.2 < n
  | 0, _, q, hq => by cases hq
  | k + 1, h, q, hq => by
    unfold apA at hq
    rcases List.mem_append.mp hq with hq | hq
    · exact apA_mem (ps := ps) (n := n) k (by omega) q hq
    · unfold apR at hq
      obtain ⟨z, hz, rfl⟩ := List.mem_map.mp hq
      have h3 := mem_upF.mp (List.mem_filter.mp hz).1
      exact ⟨by show 0 ≤ (k : Int); omega, by show (k : Int) < n; omega, by show 0 ≤ z; omega, by show z < n; omega⟩
theorem apA_l100 {ps : List (Int × Int)} {n k : Nat} (hn : n ≤ 10) (h : k ≤ n) : (apA ps n k).length ≤ 90 := by
  have h1 := apA_len (ps := ps) k h
  have h2 : k * (n - 1) ≤ 10 * 9 := Nat.mul_le_mul (by omega) (by omega)
  omega
theorem f_apart_x {n : Nat} {ps : List (Int × Int)} (h : Ordr n ps) : F_apart [.d (O n ps)] = .ok (.d (.tuple (PL (apA ps n n))), [.d (O n ps)]) := by
  have hn := h.hi
  obtain ⟨ρ', e, v2, rfl⟩ := forGo_inv (g := gNm [0] 2) (b := apart_pairs_b1) (fun i ρ => ∃ (v2 : Option Vl), ρ = [some (.d (O n ps)), some (.own (.lst (PL (apA ps n i)))), v2, none])
    (IL (upI n)) 0 [some (.d (O n ps)), some (.own (.lst (PL (apA ps n 0)))), none, none] ⟨none, rfl⟩ fun i x ρ hx ⟨v2, eρ⟩ => by
      subst eρ
      rw [Nat.zero_add]
      obtain ⟨hi, rfl⟩ := upI_at hx
      have ec := c1_apart (n := n) (by omega) ps (i : Int) (by omega) (some (.own (.lst (PL (apA ps n i))))) none
      have hz : (PL (apA ps n i)).length + (PL (apR ps n i)).length ≤ 16777216 := by
        rw [PL_len, PL_len]
        have h1 := apA_l100 (ps := ps) (n := n) (k := i) (by omega) (by omega)
        have h2 := apR_len (ps := ps) hi
        omega
      refine ⟨[some (.d (O n ps)), some (.own (.lst (PL (apA ps n (i + 1))))), some (.d (.int i)), none], .next, ?_, .inl rfl, _, rfl⟩
      rw [show gNm [0] 2 (.int (i : Int)) [some (.d (O n ps)), some (.own (.lst (PL (apA ps n i)))), v2, none] = .ok [some (.d (O n ps)), some (.own (.lst (PL (apA ps n i)))), some (.d (.int i)), none] from rfl]
      show (Ot.ok _).bind apart_pairs_b1 = Ot.ok (Fl.next, [_, some (.own (.lst (PL (apA ps n i ++ apR ps n (i : Int))))), _, _])
      rw [PL_app]
      unfold apart_pairs_b1
      generalize PL (apA ps n i) = Y at *
      generalize PL (apR ps n i) = Z at *
      simp [ioOk, Vl.owned, startE, mSeq, mIfS, mOp2, mIxA, mV, lk, mK, ixR, sq, pk, Bx.ok, Bx.x, atI, ixN, ofSum, bo, Res.rs, mAsg, gTp, gs1, gs0, gSbA, stB, gNm, mD, fz, mB, mAs, pks, mRet, finF, resF, outsF, outI, gAdd, Mp.gSub, gMod, gDiv, gMulA, gInt, gDivmod, mSkip, mAnd, mOr, mNot, mBr, mIf, mExpr, gGt_int, gLt_int, gLe_int, gEq_int, gNe_int, Ot.bind, mCall, argV, argV1, varsR, nodupN, putO, mCh, mLen, lenR, mSet, asV, mTup, mLst, allD, mIsA, okIs, known, isTy, tyD, runF, mPar, parE, asN, mFz, mExt, ownL, ec, extR, hz, sizeLine_eq]
  rw [Nat.zero_add, IL_len, upI_len] at e
  have r1 : mRange rg1 [mIxA (mV 0) (mK (.int 1))] [some (.d (O n ps)), some (.own (.lst [])), none, none] = _ := range1 (n := n) (by omega) (by unfold O; simp [ioOk, Vl.owned, startE, mSeq, mIfS, mOp2, mIxA, mV, lk, mK, ixR, sq, pk, Bx.ok, Bx.x, atI, ixN, ofSum, bo, Res.rs, mAsg, gTp, gs1, gs0, gSbA, stB, gNm, mD, fz, mB, mAs, pks, mRet, finF, resF, outsF, outI, gAdd, Mp.gSub, gMod, gDiv, gMulA, gInt, gDivmod, mSkip, mAnd, mOr, mNot, mBr, mIf, mExpr, gGt_int, gLt_int, gLe_int, gEq_int, gNe_int, Ot.bind, mCall, argV, argV1, varsR, nodupN, putO, mCh, mLen, lenR, mSet, asV, mTup, mLst, allD, mIsA, okIs, known, isTy, tyD, runF, mPar, parE, asN, mFz])
  have e' : forGo (gNm [0] 2) apart_pairs_b1 (IL (upI n)) [some (.d (O n ps)), some (.own (.lst [])), none, none] = _ := e
  have fa : F_apart_pairs [.d (O n ps)] = .ok (.new (.lst (PL (apA ps n n))), [.d (O n ps)]) := by
    unfold F_apart_pairs m_apart_pairs apart_pairs_l1
    simp [ioOk, Vl.owned, startE, mSeq, mIfS, mOp2, mIxA, mV, lk, mK, ixR, sq, pk, Bx.ok, Bx.x, atI, ixN, ofSum, bo, Res.rs, mAsg, gTp, gs1, gs0, gSbA, stB, gNm, mD, fz, mB, mAs, pks, mRet, finF, resF, outsF, outI, gAdd, Mp.gSub, gMod, gDiv, gMulA, gInt, gDivmod, mSkip, mAnd, mOr, mNot, mBr, mIf, mExpr, gGt_int, gLt_int, gLe_int, gEq_int, gNe_int, Ot.bind, mCall, argV, argV1, varsR, nodupN, putO, mCh, mLen, lenR, mSet, asV, mTup, mLst, allD, mIsA, okIs, known, isTy, tyD, runF, mPar, parE, asN, mFz, mFor, r1, e', ownedAt]
  have w := f_want_order h
  unfold F_apart m_apart
  simp [ioOk, Vl.owned, startE, mSeq, mIfS, mOp2, mIxA, mV, lk, mK, ixR, sq, pk, Bx.ok, Bx.x, atI, ixN, ofSum, bo, Res.rs, mAsg, gTp, gs1, gs0, gSbA, stB, gNm, mD, fz, mB, mAs, pks, mRet, finF, resF, outsF, outI, gAdd, Mp.gSub, gMod, gDiv, gMulA, gInt, gDivmod, mSkip, mAnd, mOr, mNot, mBr, mIf, mExpr, gGt_int, gLt_int, gLe_int, gEq_int, gNe_int, Ot.bind, mCall, argV, argV1, varsR, nodupN, putO, mCh, mLen, lenR, mSet, asV, mTup, mLst, allD, mIsA, okIs, known, isTy, tyD, runF, mPar, parE, asN, mFz, w, fa, gTuple]
theorem l_apart (n : Int) (ps : List (Int × Int)) (x y : Int) : F__law_apart [.d (O n ps), .d (.int x), .d (.int y)] = .ok (.d (.bool (decide (Apart ps x y))), [.d (O n ps), .d (.int x), .d (.int y)]) := f_are_apart n ps x y
theorem r_c3 {n : Nat} (hn : n ≤ 10) (ps : List (Int × Int)) (x : Int) (hx : 0 ≤ x ∧ x < n) (a b : Int) (v2 v4 v5 v6 v7 v8 v9 v11 v12 v13 v14 v15 v16 : Option Vl) : _law_right_c3 (RT a b n ps v2 v4 v5 v6 v7 v8 v9 (some (.d (.int x))) v11 v12 v13 v14 v15 v16) =
    .ok (.new (.lst (PL (apR ps n x))), RT a b n ps v2 v4 v5 v6 v7 v8 v9 (some (.d (.int x))) v11 v12 v13 v14 v15 v16) := by
  unfold _law_right_c3
  have e1 := range2 (ρ := RT a b n ps v2 v4 v5 v6 v7 v8 v9 (some (.d (.int x))) v11 v12 v13 v14 v15 v16) (m := mOp2 gAdd (mV 10) (mK (.int 1))) (m' := mV 3) (a := x + 1) (b := n) (by unfold RT PotV; simp [ioOk, Vl.owned, startE, mSeq, mIfS, mOp2, mIxA, mV, lk, mK, ixR, sq, pk, Bx.ok, Bx.x, atI, ixN, ofSum, bo, Res.rs, mAsg, gTp, gs1, gs0, gSbA, stB, gNm, mD, fz, mB, mAs, pks, mRet, finF, resF, outsF, outI, gAdd, Mp.gSub, gMod, gDiv, gMulA, gInt, gDivmod, mSkip, mAnd, mOr, mNot, mBr, mIf, mExpr, gGt_int, gLt_int, gLe_int, gEq_int, gNe_int, Ot.bind, mCall, argV, argV1, varsR, nodupN, putO, mCh, mLen, lenR, mSet, asV, mTup, mLst, allD, mIsA, okIs, known, isTy, tyD, runF, mPar, parE, asN, mFz]) rfl (by omega) (by omega)
  rw [intsD_F] at e1
  have := mLc_pure (n := 18) (g := gNm (outs 18 [15]) 15) (tt := mCall F__law_apart [(mV 1), (mV 10), (mV 15)]) (te := mTup [(mD (mV 10)), (mD (mV 15))]) (vs := [15]) e1 rfl
    (p := fun y => decide (Apart ps x (unI y))) (h := fun y => pr (x, unI y)) (fun y hy => ?_) (by rw [IL_len, sizeLine_eq]; unfold upF; rw [List.length_map, List.length_range]; omega)
  · rw [this]
    congr 3
    unfold apR PL IL
    rw [List.filter_map, List.map_map, List.map_map]
    rfl
  · obtain ⟨z, hz, rfl⟩ := List.mem_map.mp hy
    refine ⟨RT a b n ps v2 v4 v5 v6 v7 v8 v9 (some (.d (.int x))) v11 v12 v13 v14 (some (.d (.int z))) v16, rfl, rfl, ?_, rfl, fun _ => rfl⟩
    have := l_apart n ps x z
    unfold RT PotV
    generalize O n ps = o at *
    simp [ioOk, Vl.owned, startE, mSeq, mIfS, mOp2, mIxA, mV, lk, mK, ixR, sq, pk, Bx.ok, Bx.x, atI, ixN, ofSum, bo, Res.rs, mAsg, gTp, gs1, gs0, gSbA, stB, gNm, mD, fz, mB, mAs, pks, mRet, finF, resF, outsF, outI, gAdd, Mp.gSub, gMod, gDiv, gMulA, gInt, gDivmod, mSkip, mAnd, mOr, mNot, mBr, mIf, mExpr, gGt_int, gLt_int, gLe_int, gEq_int, gNe_int, Ot.bind, mCall, argV, argV1, varsR, nodupN, putO, mCh, mLen, lenR, mSet, asV, mTup, mLst, allD, mIsA, okIs, known, isTy, tyD, runF, mPar, parE, asN, mFz, this, unI]
    exact decide_eq_decide.mpr Iff.rfl
theorem r_every {n : Nat} {ps : List (Int × Int)} (h : Ordr n ps) (a b : Int) (v2 v4 v5 v6 v7 v8 v10 v11 v12 v13 v14 v15 v16 : Option Vl) : ∃ y10, _law_right_l3 (RT a b n ps v2 v4 v5 v6 v7 v8 (some (.own (.lst []))) v10 v11 v12 v13 v14 v15 v16) =
    .ok (.next, RT a b n ps v2 v4 v5 v6 v7 v8 (some (.own (.lst (PL (apA ps n n))))) y10 v11 v12 v13 v14 v15 v16) := by
  have hn := h.hi
  obtain ⟨ρ', e, y10, rfl⟩ := forGo_inv (g := gNm [0] 10) (b := _law_right_b3) (fun i ρ => ∃ y10, ρ = RT a b n ps v2 v4 v5 v6 v7 v8 (some (.own (.lst (PL (apA ps n i))))) y10 v11 v12 v13 v14 v15 v16)
    (IL (upI n)) 0 (RT a b n ps v2 v4 v5 v6 v7 v8 (some (.own (.lst (PL (apA ps n 0))))) v10 v11 v12 v13 v14 v15 v16) ⟨v10, rfl⟩ fun i x ρ hx ⟨y10, eρ⟩ => by
      subst eρ
      rw [Nat.zero_add]
      obtain ⟨hi, rfl⟩ := upI_at hx
      have ec := r_c3 (n := n) (by omega) ps (i : Int) (by omega) a b v2 v4 v5 v6 v7 v8 (some (.own (.lst (PL (apA ps n i))))) v11 v12 v13 v14 v15 v16
      have hz : (PL (apA ps n i)).length + (PL (apR ps n i)).length ≤ 16777216 := by
        rw [PL_len, PL_len]
        have h1 := apA_l100 (ps := ps) (n := n) (k := i) (by omega) (by omega)
        have h2 := apR_len (ps := ps) hi
        omega
      refine ⟨RT a b n ps v2 v4 v5 v6 v7 v8 (some (.own (.lst (PL (apA ps n (i + 1)))))) (some (.d (.int i))) v11 v12 v13 v14 v15 v16, .next, ?_, .inl rfl, _, rfl⟩
      rw [show gNm [0] 10 (.int (i : Int)) (RT a b n ps v2 v4 v5 v6 v7 v8 (some (.own (.lst (PL (apA ps n i))))) y10 v11 v12 v13 v14 v15 v16) = .ok (RT a b n ps v2 v4 v5 v6 v7 v8 (some (.own (.lst (PL (apA ps n i))))) (some (.d (.int i))) v11 v12 v13 v14 v15 v16) from rfl]
      show (Ot.ok _).bind _law_right_b3 = Ot.ok (Fl.next, RT a b n ps v2 v4 v5 v6 v7 v8 (some (.own (.lst (PL (apA ps n i ++ apR ps n (i : Int)))))) _ v11 v12 v13 v14 v15 v16)
      rw [PL_app]
      unfold _law_right_b3
      generalize hM : _law_right_c3 = M at ec
      unfold RT PotV at ec ⊢
      generalize PL (apA ps n i) = Y at *
      generalize PL (apR ps n i) = Z at *
      generalize O n ps = o at *
      simp [ioOk, Vl.owned, startE, mSeq, mIfS, mOp2, mIxA, mV, lk, mK, ixR, sq, pk, Bx.ok, Bx.x, atI, ixN, ofSum, bo, Res.rs, mAsg, gTp, gs1, gs0, gSbA, stB, gNm, mD, fz, mB, mAs, pks, mRet, finF, resF, outsF, outI, gAdd, Mp.gSub, gMod, gDiv, gMulA, gInt, gDivmod, mSkip, mAnd, mOr, mNot, mBr, mIf, mExpr, gGt_int, gLt_int, gLe_int, gEq_int, gNe_int, Ot.bind, mCall, argV, argV1, varsR, nodupN, putO, mCh, mLen, lenR, mSet, asV, mTup, mLst, allD, mIsA, okIs, known, isTy, tyD, runF, mPar, parE, asN, mFz, mExt, ownL, ec, extR, hz, sizeLine_eq]
  rw [Nat.zero_add, IL_len, upI_len] at e
  refine ⟨y10, ?_⟩
  have r1 : mRange rg1 [mV 3] (RT a b n ps v2 v4 v5 v6 v7 v8 (some (.own (.lst []))) v10 v11 v12 v13 v14 v15 v16) = _ := range1 (n := n) (by omega) rfl
  unfold _law_right_l3 mFor
  rw [r1]
  exact e
end My
set_option maxHeartbeats 2000000
namespace My
open PySem PySem.Spec PyProof.Rows L2 Mp RZ
def ahR (n : Nat) (ps : List (Int × Int)) (r : Int) : List Int := (upI n).filter fun a => decide ((a, r) ∈ ps)
def bhR (n : Nat) (ps : List (Int × Int)) (r : Int) : List Int := (upI n).filter fun b => decide ((r, b) ∈ ps)
theorem upI_le (n : Nat) : (upI n).Pairwise (· ≤ ·) := by
  unfold upI
  exact List.pairwise_map.mpr (List.pairwise_lt_range.imp fun {a b} hab => by omega)
theorem ah_perm {n : Nat} {ps : List (Int × Int)} (h : Ordr n ps) (r : Int) : ((ps.filter fun q => q.2 == r).map Prod.fst).Perm (ahR n ps r) := by
  refine (List.perm_ext_iff_of_nodup ?_ ((upI_nd n).filter _)).mpr fun x => ?_
  · refine List.pairwise_map.mpr (((rise_nodup h.rise).filter _).imp_of_mem fun {p q} hp hq hpq e => hpq ?_)
    have h1 := (List.mem_filter.mp hp).2
    have h2 := (List.mem_filter.mp hq).2
    simp only [beq_iff_eq] at h1 h2
    exact Prod.ext e (h1.trans h2.symm)
  · rw [List.mem_map, List.mem_filter, decide_eq_true_eq]
    constructor
    · rintro ⟨q, hq, rfl⟩
      obtain ⟨h1, h2⟩ := List.mem_filter.mp hq
      simp only [beq_iff_eq] at h2
      subst h2
      have := h.inr q h1
      exact ⟨mem_upI.mpr ⟨this.1, this.2.1⟩, h1⟩
    · exact fun ⟨_, h2⟩ => ⟨(x, r), List.mem_filter.mpr ⟨h2, by simp⟩, rfl⟩
theorem bh_perm {n : Nat} {ps : List (Int × Int)} (h : Ordr n ps) (r : Int) : ((ps.filter fun q => q.1 == r).map Prod.snd).Perm (bhR n ps r) := by
  refine (List.perm_ext_iff_of_nodup ?_ ((upI_nd n).filter _)).mpr fun x => ?_
  · refine List.pairwise_map.mpr (((rise_nodup h.rise).filter _).imp_of_mem fun {p q} hp hq hpq e => hpq ?_)
    have h1 := (List.mem_filter.mp hp).2
    have h2 := (List.mem_filter.mp hq).2
    simp only [beq_iff_eq] at h1 h2
    exact Prod.ext (h1.trans h2.symm) e
  · rw [List.mem_map, List.mem_filter, decide_eq_true_eq]
    constructor
    · rintro ⟨q, hq, rfl⟩
      obtain ⟨h1, h2⟩ := List.mem_filter.mp hq
      simp only [beq_iff_eq] at h2
      subst h2
      have := h.inr q h1
      exact ⟨mem_upI.mpr ⟨this.2.2.1, this.2.2.2⟩, h1⟩
    · exact fun ⟨_, h2⟩ => ⟨(r, x), List.mem_filter.mpr ⟨h2, by simp⟩, rfl⟩
theorem f_ahead_of {n : Nat} {ps : List (Int × Int)} (h : Ordr n ps) (r : Int) : F_ahead_of [.d (.tuple (PL ps)), .d (.int r)] = .ok (.new (.lst (IL (ahR n ps r))), [.d (.tuple (PL ps)), .d (.int r)]) := by
  have hl := h.len
  have ec : ahead_of_c1 [some (.d (.tuple (PL ps))), some (.d (.int r)), none, none] = .ok (.new (.lst (IL ((ps.filter fun q => q.2 == r).map Prod.fst))), [some (.d (.tuple (PL ps))), some (.d (.int r)), none, none]) := by
    unfold ahead_of_c1
    have := mLc_pure (n := 4) (it := mIt (mV 0)) (g := gTp 2 (gs1 (gNm (outs 4 [2, 3]) 2) (gs1 (gNm (outs 4 [2, 3]) 3) gs0))) (tt := mOp2 gEq (mV 3) (mV 1)) (te := mV 2) (vs := [2, 3])
      (ρ := [some (.d (.tuple (PL ps))), some (.d (.int r)), none, none]) (ρ1 := [some (.d (.tuple (PL ps))), some (.d (.int r)), none, none])
      (xs := PL ps) (p := fun x => (unpr x).2 == r) (h := fun x => .int (unpr x).1) (by simp [ioOk, Vl.owned, startE, mSeq, mIfS, mOp2, mIxA, mV, lk, mK, ixR, sq, pk, Bx.ok, Bx.x, atI, ixN, ofSum, bo, Res.rs, mAsg, gTp, gs1, gs0, gSbA, stB, gNm, mD, fz, mB, mAs, pks, mRet, finF, resF, outsF, outI, gAdd, Mp.gSub, gMod, gDiv, gMulA, gInt, gDivmod, mSkip, mAnd, mOr, mNot, mBr, mIf, mExpr, gGt_int, gLt_int, gLe_int, gEq_int, gNe_int, Ot.bind, mCall, argV, argV1, varsR, nodupN, putO, mCh, mLen, lenR, mSet, asV, mTup, mLst, allD, mIsA, okIs, known, isTy, tyD, runF, mPar, parE, asN, mFz, mIt, seqD]) rfl (fun x hx => ?_) (by rw [PL_len, sizeLine_eq]; omega)
    · rw [this, PL_fm ps (fun q => q.2 == r) (fun q => .int q.1)]
      unfold IL
      rw [List.map_map]
      rfl
    · obtain ⟨⟨c, d⟩, hq, rfl⟩ := List.mem_map.mp hx
      exact ⟨[some (.d (.tuple (PL ps))), some (.d (.int r)), some (.d (.int c)), some (.d (.int d))], rfl, rfl, by simp [ioOk, Vl.owned, startE, mSeq, mIfS, mOp2, mIxA, mV, lk, mK, ixR, sq, pk, Bx.ok, Bx.x, atI, ixN, ofSum, bo, Res.rs, mAsg, gTp, gs1, gs0, gSbA, stB, gNm, mD, fz, mB, mAs, pks, mRet, finF, resF, outsF, outI, gAdd, Mp.gSub, gMod, gDiv, gMulA, gInt, gDivmod, mSkip, mAnd, mOr, mNot, mBr, mIf, mExpr, gGt_int, gLt_int, gLe_int, gEq_int, gNe_int, Ot.bind, mCall, argV, argV1, varsR, nodupN, putO, mCh, mLen, lenR, mSet, asV, mTup, mLst, allD, mIsA, okIs, known, isTy, tyD, runF, mPar, parE, asN, mFz, unpr_pr], rfl, fun _ => rfl⟩
  have es := sort_uniq (ah_perm h r) ((upI_le n).filter _)
  unfold F_ahead_of m_ahead_of
  simp [ioOk, Vl.owned, startE, mSeq, mIfS, mOp2, mIxA, mV, lk, mK, ixR, sq, pk, Bx.ok, Bx.x, atI, ixN, ofSum, bo, Res.rs, mAsg, gTp, gs1, gs0, gSbA, stB, gNm, mD, fz, mB, mAs, pks, mRet, finF, resF, outsF, outI, gAdd, Mp.gSub, gMod, gDiv, gMulA, gInt, gDivmod, mSkip, mAnd, mOr, mNot, mBr, mIf, mExpr, gGt_int, gLt_int, gLe_int, gEq_int, gNe_int, Ot.bind, mCall, argV, argV1, varsR, nodupN, putO, mCh, mLen, lenR, mSet, asV, mTup, mLst, allD, mIsA, okIs, known, isTy, tyD, runF, mPar, parE, asN, mFz, ec, es]
theorem f_behind_of {n : Nat} {ps : List (Int × Int)} (h : Ordr n ps) (r : Int) : F_behind_of [.d (.tuple (PL ps)), .d (.int r)] = .ok (.new (.lst (IL (bhR n ps r))), [.d (.tuple (PL ps)), .d (.int r)]) := by
  have hl := h.len
  have ec : behind_of_c1 [some (.d (.tuple (PL ps))), some (.d (.int r)), none, none] = .ok (.new (.lst (IL ((ps.filter fun q => q.1 == r).map Prod.snd))), [some (.d (.tuple (PL ps))), some (.d (.int r)), none, none]) := by
    unfold behind_of_c1
    have := mLc_pure (n := 4) (it := mIt (mV 0)) (g := gTp 2 (gs1 (gNm (outs 4 [2, 3]) 2) (gs1 (gNm (outs 4 [2, 3]) 3) gs0))) (tt := mOp2 gEq (mV 2) (mV 1)) (te := mV 3) (vs := [2, 3])
      (ρ := [some (.d (.tuple (PL ps))), some (.d (.int r)), none, none]) (ρ1 := [some (.d (.tuple (PL ps))), some (.d (.int r)), none, none])
      (xs := PL ps) (p := fun x => (unpr x).1 == r) (h := fun x => .int (unpr x).2) (by simp [ioOk, Vl.owned, startE, mSeq, mIfS, mOp2, mIxA, mV, lk, mK, ixR, sq, pk, Bx.ok, Bx.x, atI, ixN, ofSum, bo, Res.rs, mAsg, gTp, gs1, gs0, gSbA, stB, gNm, mD, fz, mB, mAs, pks, mRet, finF, resF, outsF, outI, gAdd, Mp.gSub, gMod, gDiv, gMulA, gInt, gDivmod, mSkip, mAnd, mOr, mNot, mBr, mIf, mExpr, gGt_int, gLt_int, gLe_int, gEq_int, gNe_int, Ot.bind, mCall, argV, argV1, varsR, nodupN, putO, mCh, mLen, lenR, mSet, asV, mTup, mLst, allD, mIsA, okIs, known, isTy, tyD, runF, mPar, parE, asN, mFz, mIt, seqD]) rfl (fun x hx => ?_) (by rw [PL_len, sizeLine_eq]; omega)
    · rw [this, PL_fm ps (fun q => q.1 == r) (fun q => .int q.2)]
      unfold IL
      rw [List.map_map]
      rfl
    · obtain ⟨⟨c, d⟩, hq, rfl⟩ := List.mem_map.mp hx
      exact ⟨[some (.d (.tuple (PL ps))), some (.d (.int r)), some (.d (.int c)), some (.d (.int d))], rfl, rfl, by simp [ioOk, Vl.owned, startE, mSeq, mIfS, mOp2, mIxA, mV, lk, mK, ixR, sq, pk, Bx.ok, Bx.x, atI, ixN, ofSum, bo, Res.rs, mAsg, gTp, gs1, gs0, gSbA, stB, gNm, mD, fz, mB, mAs, pks, mRet, finF, resF, outsF, outI, gAdd, Mp.gSub, gMod, gDiv, gMulA, gInt, gDivmod, mSkip, mAnd, mOr, mNot, mBr, mIf, mExpr, gGt_int, gLt_int, gLe_int, gEq_int, gNe_int, Ot.bind, mCall, argV, argV1, varsR, nodupN, putO, mCh, mLen, lenR, mSet, asV, mTup, mLst, allD, mIsA, okIs, known, isTy, tyD, runF, mPar, parE, asN, mFz, unpr_pr], rfl, fun _ => rfl⟩
  have es := sort_uniq (bh_perm h r) ((upI_le n).filter _)
  unfold F_behind_of m_behind_of
  simp [ioOk, Vl.owned, startE, mSeq, mIfS, mOp2, mIxA, mV, lk, mK, ixR, sq, pk, Bx.ok, Bx.x, atI, ixN, ofSum, bo, Res.rs, mAsg, gTp, gs1, gs0, gSbA, stB, gNm, mD, fz, mB, mAs, pks, mRet, finF, resF, outsF, outI, gAdd, Mp.gSub, gMod, gDiv, gMulA, gInt, gDivmod, mSkip, mAnd, mOr, mNot, mBr, mIf, mExpr, gGt_int, gLt_int, gLe_int, gEq_int, gNe_int, Ot.bind, mCall, argV, argV1, varsR, nodupN, putO, mCh, mLen, lenR, mSet, asV, mTup, mLst, allD, mIsA, okIs, known, isTy, tyD, runF, mPar, parE, asN, mFz, ec, es]
theorem f_want_runner {n r : Int} (h : 0 ≤ r ∧ r < n) : F_want_runner [.d (.int n), .d (.int r)] = .ok (.d .none, [.d (.int n), .d (.int r)]) := by
  have w := f_is_within r 0 (n - 1)
  rw [decide_eq_true h.1, decide_eq_true (show r ≤ n - 1 by omega)] at w
  unfold F_want_runner m_want_runner
  simp [ioOk, Vl.owned, startE, mSeq, mIfS, mOp2, mIxA, mV, lk, mK, ixR, sq, pk, Bx.ok, Bx.x, atI, ixN, ofSum, bo, Res.rs, mAsg, gTp, gs1, gs0, gSbA, stB, gNm, mD, fz, mB, mAs, pks, mRet, finF, resF, outsF, outI, gAdd, Mp.gSub, gMod, gDiv, gMulA, gInt, gDivmod, mSkip, mAnd, mOr, mNot, mBr, mIf, mExpr, gGt_int, gLt_int, gLe_int, gEq_int, gNe_int, Ot.bind, mCall, argV, argV1, varsR, nodupN, putO, mCh, mLen, lenR, mSet, asV, mTup, mLst, allD, mIsA, okIs, known, isTy, tyD, runF, mPar, parE, asN, mFz, w]
theorem f_ahead {n : Nat} {ps : List (Int × Int)} (h : Ordr n ps) {r : Int} (hr : 0 ≤ r ∧ r < n) : F_ahead [.d (O n ps), .d (.int r)] = .ok (.d (.tuple (IL (ahR n ps r))), [.d (O n ps), .d (.int r)]) := by
  have w1 := f_want_order h
  have w2 := f_want_runner hr
  have w3 := f_ahead_of h r
  unfold F_ahead m_ahead
  unfold O at *
  generalize PL ps = pps at *
  generalize IL (ahR n ps r) = Z at *
  simp [ioOk, Vl.owned, startE, mSeq, mIfS, mOp2, mIxA, mV, lk, mK, ixR, sq, pk, Bx.ok, Bx.x, atI, ixN, ofSum, bo, Res.rs, mAsg, gTp, gs1, gs0, gSbA, stB, gNm, mD, fz, mB, mAs, pks, mRet, finF, resF, outsF, outI, gAdd, Mp.gSub, gMod, gDiv, gMulA, gInt, gDivmod, mSkip, mAnd, mOr, mNot, mBr, mIf, mExpr, gGt_int, gLt_int, gLe_int, gEq_int, gNe_int, Ot.bind, mCall, argV, argV1, varsR, nodupN, putO, mCh, mLen, lenR, mSet, asV, mTup, mLst, allD, mIsA, okIs, known, isTy, tyD, runF, mPar, parE, asN, mFz, w1, w2, w3, gTuple]
theorem f_behind {n : Nat} {ps : List (Int × Int)} (h : Ordr n ps) {r : Int} (hr : 0 ≤ r ∧ r < n) : F_behind [.d (O n ps), .d (.int r)] = .ok (.d (.tuple (IL (bhR n ps r))), [.d (O n ps), .d (.int r)]) := by
  have w1 := f_want_order h
  have w2 := f_want_runner hr
  have w3 := f_behind_of h r
  unfold F_behind m_behind
  unfold O at *
  generalize PL ps = pps at *
  generalize IL (bhR n ps r) = Z at *
  simp [ioOk, Vl.owned, startE, mSeq, mIfS, mOp2, mIxA, mV, lk, mK, ixR, sq, pk, Bx.ok, Bx.x, atI, ixN, ofSum, bo, Res.rs, mAsg, gTp, gs1, gs0, gSbA, stB, gNm, mD, fz, mB, mAs, pks, mRet, finF, resF, outsF, outI, gAdd, Mp.gSub, gMod, gDiv, gMulA, gInt, gDivmod, mSkip, mAnd, mOr, mNot, mBr, mIf, mExpr, gGt_int, gLt_int, gLe_int, gEq_int, gNe_int, Ot.bind, mCall, argV, argV1, varsR, nodupN, putO, mCh, mLen, lenR, mSet, asV, mTup, mLst, allD, mIsA, okIs, known, isTy, tyD, runF, mPar, parE, asN, mFz, w1, w2, w3, gTuple]
theorem ah_turn (n : Nat) (ps : List (Int × Int)) (r : Int) : ahR n (srt (Tb ps)) r = bhR n ps r := by
  unfold ahR bhR
  refine List.filter_congr fun x _ => decide_eq_decide.mpr ?_
  rw [mem_sort, mem_Tb]
theorem bh_turn (n : Nat) (ps : List (Int × Int)) (r : Int) : bhR n (srt (Tb ps)) r = ahR n ps r := by
  unfold ahR bhR
  refine List.filter_congr fun x _ => decide_eq_decide.mpr ?_
  rw [mem_sort, mem_Tb]
end My
set_option maxHeartbeats 2000000
namespace My
open PySem PySem.Spec PyProof.Rows L2 Mp RZ
theorem r_c4 {n : Nat} (hn : n ≤ 10) (ps : List (Int × Int)) (r : Int) (a b : Int) (v2 v4 v5 v6 v7 v8 v9 v10 v11 v13 v14 v15 v16 : Option Vl) : _law_right_c4 (RT a b n ps v2 v4 v5 v6 v7 v8 v9 v10 v11 (some (.d (.int r))) v13 v14 v15 v16) =
    .ok (.new (.lst (IL (ahR n ps r))), RT a b n ps v2 v4 v5 v6 v7 v8 v9 v10 v11 (some (.d (.int r))) v13 v14 v15 v16) := by
  have r1 : mRange rg1 [mV 3] (RT a b n ps v2 v4 v5 v6 v7 v8 v9 v10 v11 (some (.d (.int r))) v13 v14 v15 v16) = _ := range1 (n := n) (by omega) rfl
  unfold _law_right_c4
  have := mLc_pure (n := 18) (g := gNm (outs 18 [5]) 5) (tt := mOp2 gInA (mTup [(mD (mV 5)), (mD (mV 12))]) (mIxA (mV 1) (mK (.int 2)))) (te := mV 5) (vs := [5]) r1 rfl
    (p := fun x => decide ((unI x, r) ∈ ps)) (h := fun x => .int (unI x)) (fun y hy => ?_) (by rw [IL_len, upI_len, sizeLine_eq]; omega)
  · rw [this]
    congr 3
    unfold ahR IL
    rw [List.filter_map, List.map_map]
    rfl
  · obtain ⟨z, hz, rfl⟩ := List.mem_map.mp hy
    have i1 : gInA (.tuple [.int z, .int r]) (.tuple (PL ps)) = some (.d (.bool (decide ((z, r) ∈ ps)))) := gIn_PT ps (z, r)
    refine ⟨RT a b n ps v2 v4 (some (.d (.int z))) v6 v7 v8 v9 v10 v11 (some (.d (.int r))) v13 v14 v15 v16, rfl, rfl, ?_, rfl, fun _ => rfl⟩
    unfold RT PotV O
    generalize PL ps = pps at *
    simp [ioOk, Vl.owned, startE, mSeq, mIfS, mOp2, mIxA, mV, lk, mK, ixR, sq, pk, Bx.ok, Bx.x, atI, ixN, ofSum, bo, Res.rs, mAsg, gTp, gs1, gs0, gSbA, stB, gNm, mD, fz, mB, mAs, pks, mRet, finF, resF, outsF, outI, gAdd, Mp.gSub, gMod, gDiv, gMulA, gInt, gDivmod, mSkip, mAnd, mOr, mNot, mBr, mIf, mExpr, gGt_int, gLt_int, gLe_int, gEq_int, gNe_int, Ot.bind, mCall, argV, argV1, varsR, nodupN, putO, mCh, mLen, lenR, mSet, asV, mTup, mLst, allD, mIsA, okIs, known, isTy, tyD, runF, mPar, parE, asN, mFz, i1, unI]
    exact decide_eq_decide.mpr Iff.rfl
theorem r_c5 {n : Nat} (hn : n ≤ 10) (ps : List (Int × Int)) (r : Int) (a b : Int) (v2 v4 v5 v6 v7 v8 v9 v10 v11 v13 v14 v15 v16 : Option Vl) : _law_right_c5 (RT a b n ps v2 v4 v5 v6 v7 v8 v9 v10 v11 (some (.d (.int r))) v13 v14 v15 v16) =
    .ok (.new (.lst (IL (bhR n ps r))), RT a b n ps v2 v4 v5 v6 v7 v8 v9 v10 v11 (some (.d (.int r))) v13 v14 v15 v16) := by
  have r1 : mRange rg1 [mV 3] (RT a b n ps v2 v4 v5 v6 v7 v8 v9 v10 v11 (some (.d (.int r))) v13 v14 v15 v16) = _ := range1 (n := n) (by omega) rfl
  unfold _law_right_c5
  have := mLc_pure (n := 18) (g := gNm (outs 18 [6]) 6) (tt := mOp2 gInA (mTup [(mD (mV 12)), (mD (mV 6))]) (mIxA (mV 1) (mK (.int 2)))) (te := mV 6) (vs := [6]) r1 rfl
    (p := fun x => decide ((r, unI x) ∈ ps)) (h := fun x => .int (unI x)) (fun y hy => ?_) (by rw [IL_len, upI_len, sizeLine_eq]; omega)
  · rw [this]
    congr 3
    unfold bhR IL
    rw [List.filter_map, List.map_map]
    rfl
  · obtain ⟨z, hz, rfl⟩ := List.mem_map.mp hy
    have i1 : gInA (.tuple [.int r, .int z]) (.tuple (PL ps)) = some (.d (.bool (decide ((r, z) ∈ ps)))) := gIn_PT ps (r, z)
    refine ⟨RT a b n ps v2 v4 v5 (some (.d (.int z))) v7 v8 v9 v10 v11 (some (.d (.int r))) v13 v14 v15 v16, rfl, rfl, ?_, rfl, fun _ => rfl⟩
    unfold RT PotV O
    generalize PL ps = pps at *
    simp [ioOk, Vl.owned, startE, mSeq, mIfS, mOp2, mIxA, mV, lk, mK, ixR, sq, pk, Bx.ok, Bx.x, atI, ixN, ofSum, bo, Res.rs, mAsg, gTp, gs1, gs0, gSbA, stB, gNm, mD, fz, mB, mAs, pks, mRet, finF, resF, outsF, outI, gAdd, Mp.gSub, gMod, gDiv, gMulA, gInt, gDivmod, mSkip, mAnd, mOr, mNot, mBr, mIf, mExpr, gGt_int, gLt_int, gLe_int, gEq_int, gNe_int, Ot.bind, mCall, argV, argV1, varsR, nodupN, putO, mCh, mLen, lenR, mSet, asV, mTup, mLst, allD, mIsA, okIs, known, isTy, tyD, runF, mPar, parE, asN, mFz, i1, unI]
    exact decide_eq_decide.mpr Iff.rfl
/-- one runner: who is ahead, who behind -/
theorem r_runner {n : Nat} {ps : List (Int × Int)} (h : Ordr n ps) {r : Int} (hr : 0 ≤ r ∧ r < n) (a b : Int) (v2 v4 v5 v6 v7 v8 v9 v10 v13 v14 v15 v16 : Option Vl) : ∃ y13, _law_right_b4 (RT a b n ps v2 v4 v5 v6 v7 v8 v9 v10 (some (.d (O n (srt (Tb ps))))) (some (.d (.int r))) v13 v14 v15 v16) =
    .ok (.next, RT a b n ps v2 v4 v5 v6 v7 v8 v9 v10 (some (.d (O n (srt (Tb ps))))) (some (.d (.int r))) y13 v14 v15 v16) := by
  have hhi := h.hi
  have e4 := r_c4 (n := n) (by omega) ps r a b v2 v4 v5 v6 v7 v8 v9 v10 (some (.d (O n (srt (Tb ps))))) v13 v14 v15 v16
  have e5 := r_c5 (n := n) (by omega) ps r a b v2 v4 v5 v6 v7 v8 v9 v10 (some (.d (O n (srt (Tb ps))))) v13 v14 v15 v16
  have a1 := f_ahead h hr
  have b1 := f_behind h hr
  have a2 := f_ahead h.turn hr
  have b2 := f_behind h.turn hr
  rw [ah_turn] at a2
  rw [bh_turn] at b2
  have la : (ahR n ps r).length ≤ 60 := Nat.le_trans (List.length_filter_le _ _) (by rw [upI_len]; omega)
  have lb : (bhR n ps r).length ≤ 60 := Nat.le_trans (List.length_filter_le _ _) (by rw [upI_len]; omega)
  have ma : ∀ i ∈ ahR n ps r, 0 ≤ i ∧ i ≤ 10 := fun i hi => by have := mem_upI.mp (List.mem_filter.mp hi).1; omega
  have mb : ∀ i ∈ bhR n ps r, 0 ≤ i ∧ i ≤ 10 := fun i hi => by have := mem_upI.mp (List.mem_filter.mp hi).1; omega
  obtain ⟨x1, x2, x3⟩ := base_IT ma la
  obtain ⟨y1, y2, y3⟩ := base_IT mb lb
  obtain ⟨s, hs⟩ := rep_two x1 y1 x2 y2 x3 y3
  have n1 := gNe_str s
  have d1 := depth_ILc (ahR n ps r)
  have d2 := depth_ILc (bhR n ps r)
  have n2 : gNe (.list [.tuple (IL (ahR n ps r)), .tuple (IL (bhR n ps r))]) (.list [.tuple (IL (ahR n ps r)), .tuple (IL (bhR n ps r))]) = some (.d (.bool false)) :=
    gNe_same (by simp [PyData.plain, PyData.plainAll, IL_plain]) (by simp only [PyData.depth, PyData.depthAll]; omega)
  refine ⟨some (.own (.lst [.tuple (IL (ahR n ps r)), .tuple (IL (bhR n ps r))])), ?_⟩
  unfold _law_right_b4
  generalize hM : _law_right_c4 = M at e4
  generalize hM2 : _law_right_c5 = M2 at e5
  unfold RT PotV at e4 e5 ⊢
  generalize O n ps = o at *
  generalize O n (srt (Tb ps)) = o' at *
  generalize IL (ahR n ps r) = A at *
  generalize IL (bhR n ps r) = B at *
  simp [ioOk, Vl.owned, startE, mSeq, mIfS, mOp2, mIxA, mV, lk, mK, ixR, sq, pk, Bx.ok, Bx.x, atI, ixN, ofSum, bo, Res.rs, mAsg, gTp, gs1, gs0, gSbA, stB, gNm, mD, fz, mB, mAs, pks, mRet, finF, resF, outsF, outI, gAdd, Mp.gSub, gMod, gDiv, gMulA, gInt, gDivmod, mSkip, mAnd, mOr, mNot, mBr, mIf, mExpr, gGt_int, gLt_int, gLe_int, gEq_int, gNe_int, Ot.bind, mCall, argV, argV1, varsR, nodupN, putO, mCh, mLen, lenR, mSet, asV, mTup, mLst, allD, mIsA, okIs, known, isTy, tyD, runF, mPar, parE, asN, mFz, e4, e5, gTuple, a1, b1, a2, b2, hs, n1, n2, mCallK, Mp.pickR]
theorem r_runners {n : Nat} {ps : List (Int × Int)} (h : Ordr n ps) (a b : Int) (v2 v4 v5 v6 v7 v8 v9 v10 v12 v13 v14 v15 v16 : Option Vl) : ∃ y12 y13, _law_right_l4 (RT a b n ps v2 v4 v5 v6 v7 v8 v9 v10 (some (.d (O n (srt (Tb ps))))) v12 v13 v14 v15 v16) =
    .ok (.next, RT a b n ps v2 v4 v5 v6 v7 v8 v9 v10 (some (.d (O n (srt (Tb ps))))) y12 y13 v14 v15 v16) := by
  have hhi := h.hi
  obtain ⟨ρ', e, y12, y13, rfl⟩ := forGo_inv (g := gNm [0] 12) (b := _law_right_b4) (fun i ρ => ∃ y12 y13, ρ = RT a b n ps v2 v4 v5 v6 v7 v8 v9 v10 (some (.d (O n (srt (Tb ps))))) y12 y13 v14 v15 v16)
    (IL (upI n)) 0 (RT a b n ps v2 v4 v5 v6 v7 v8 v9 v10 (some (.d (O n (srt (Tb ps))))) v12 v13 v14 v15 v16) ⟨v12, v13, rfl⟩ fun i x ρ hx ⟨y12, y13, eρ⟩ => by
      subst eρ
      obtain ⟨hi, rfl⟩ := upI_at hx
      obtain ⟨z13, e⟩ := r_runner h (r := (i : Int)) (by omega) a b v2 v4 v5 v6 v7 v8 v9 v10 y13 v14 v15 v16
      exact ⟨_, .next, e, .inl rfl, _, _, rfl⟩
  refine ⟨y12, y13, ?_⟩
  have r1 : mRange rg1 [mV 3] (RT a b n ps v2 v4 v5 v6 v7 v8 v9 v10 (some (.d (O n (srt (Tb ps))))) v12 v13 v14 v15 v16) = _ := range1 (n := n) (by omega) rfl
  unfold _law_right_l4 mFor
  rw [r1]
  exact e
end My
set_option maxHeartbeats 2000000
namespace My
open PySem PySem.Spec PyProof.Rows L2 Mp RZ
/-- why a pair follows: a row of steps -/
theorem f_why {w : D} {n : Nat} (hn : 1 ≤ n ∧ n ≤ 10) {qs : List (Int × Int)} (hq : Pm.InR n qs) (hi : Pm.Irr qs) (hz : qs.length ≤ 200) (hs : ∀ h, (succ qs h).length < 64) (hw : w = .list (PL qs) ∨ w = .tuple (PL qs)) {x y : Int}
    (hxy : 0 ≤ x ∧ x < n ∧ 0 ≤ y ∧ y < n ∧ x ≠ y) (hr : Pm.Rch qs x y) : ∃ p, Row qs x y p ∧ p.length ≤ 11 ∧ F_why [.d (.int n), .d w, .d (pr (x, y))] = .ok (.d (.list (IL p)), [.d (.int n), .d w, .d (pr (x, y))]) := by
  have lv : LV (some (.d w)) w qs := ⟨hw, .inl rfl⟩
  obtain ⟨f, hf, hJ, ef⟩ := f_follows hq (by omega) (by omega) (by omega) hs (.d w) lv
  have w1 := f_want_reports_w (n := n) (by omega) hq hi hz lv
  have w2 := f_want_pair hxy
  obtain ⟨r, hr1, ev⟩ := val_DKK (k := x) (f := f) (by rw [hf, mem_upI]; omega)
  have J := hJ _ _ hr1
  have hlen := J.len hq (by omega)
  rcases val_DK y r with ⟨h1, _⟩ | ⟨p, h1, h2⟩
  · exact absurd ((J.fin y).mpr hr) h1
  · refine ⟨p, J.row _ _ h1, by have := J.pl _ _ h1; omega, ?_⟩
    have u1 := unK_DKK f
    have u2 := unK_kvD (DK r)
    unfold F_why m_why
    unfold pr at *
    generalize hD : DKK f = K at *
    generalize hE : kvD (DK r) = E at *
    generalize DK r = dr at *
    generalize IL p = ip at *
    have k1 : keyOfD (.int x) = some (.inl x) := rfl
    have k2 : keyOfD (.int y) = some (.inl y) := rfl
    simp [ioOk, Vl.owned, startE, mSeq, mIfS, mOp2, mIxA, mV, lk, mK, ixR, sq, pk, Bx.ok, Bx.x, atI, ixN, ofSum, bo, Res.rs, mAsg, gTp, gs1, gs0, gSbA, stB, gNm, mD, fz, mB, mAs, pks, mRet, finF, resF, outsF, outI, gAdd, Mp.gSub, gMod, gDiv, gMulA, gInt, gDivmod, mSkip, mAnd, mOr, mNot, mBr, mIf, mExpr, gGt_int, gLt_int, gLe_int, gEq_int, gNe_int, Ot.bind, mCall, argV, argV1, varsR, nodupN, putO, mCh, mLen, lenR, mSet, asV, mTup, mLst, allD, mIsA, okIs, known, isTy, tyD, runF, mPar, parE, asN, mFz, w1, w2, ef, u1, u2, mGet2, isDk, getR, k1, k2, ev, h2]
theorem pairs_IL : ∀ (ns ms : List Int), pairsD (IL ns) (IL ms) = PL (ns.zip ms)
  | [], ms => by unfold pairsD; rfl
  | n :: ns, [] => by unfold pairsD; rfl
  | n :: ns, m :: ms => by
    show PyData.tuple [.int n, .int m] :: pairsD (IL ns) (IL ms) = pr (n, m) :: PL (ns.zip ms)
    rw [pairs_IL ns ms]
    rfl
theorem f_is_why {w : D} {n : Nat} (hn : 1 ≤ n ∧ n ≤ 10) {qs : List (Int × Int)} (hq : Pm.InR n qs) (hi : Pm.Irr qs) (hz : qs.length ≤ 200) (hw : w = .list (PL qs) ∨ w = .tuple (PL qs)) {x y : Int}
    (hxy : 0 ≤ x ∧ x < n ∧ 0 ≤ y ∧ y < n ∧ x ≠ y) {p : List Int} (hr : Row qs x y p) (hp : p.length ≤ 100) : F_is_why [.d (.int n), .d w, .d (pr (x, y)), .d (.list (IL p))] = .ok (.d (.bool true), [.d (.int n), .d w, .d (pr (x, y)), .d (.list (IL p))]) := by
  have lv : LV (some (.d w)) w qs := ⟨hw, .inl rfl⟩
  have w1 := f_want_reports_w (n := n) (by omega) hq hi hz lv
  have w2 := f_want_pair hxy
  obtain ⟨r1, r2, r3, r4⟩ := hr
  have mem : ∀ i ∈ p, 0 ≤ i ∧ i < n := by
    intro i hi'
    obtain ⟨k, hk⟩ := List.mem_iff_getElem?.mp hi'
    have hk' := (List.getElem?_eq_some_iff.mp hk).1
    by_cases h : k + 1 < p.length
    · have hm : (i, p[k + 1]) ∈ p.zip p.tail := by
        refine List.mem_iff_getElem?.mpr ⟨k, ?_⟩
        rw [List.getElem?_zip_eq_some]
        exact ⟨hk, by rw [List.getElem?_tail]; exact List.getElem?_eq_getElem h⟩
      have := hq _ (r4 _ hm)
      exact ⟨this.1, this.2.1⟩
    · obtain ⟨j, rfl⟩ : ∃ j, k = j + 1 := ⟨k - 1, by omega⟩
      have hm : (p[j], i) ∈ p.zip p.tail := by
        refine List.mem_iff_getElem?.mpr ⟨j, ?_⟩
        rw [List.getElem?_zip_eq_some]
        exact ⟨List.getElem?_eq_getElem (by omega), by rw [List.getElem?_tail]; exact hk⟩
      have := hq _ (r4 _ hm)
      exact ⟨this.2.2.1, this.2.2.2⟩
  have c1 : is_why_c1 [some (.d (.int n)), some (.d w), some (.d (pr (x, y))), some (.d (.list (IL p))), none, none] = .ok (.new (.lst (TT (IL p).length)), [some (.d (.int n)), some (.d w), some (.d (pr (x, y))), some (.d (.list (IL p))), none, none]) := by
    unfold is_why_c1
    refine mLc_all (ρ1 := [some (.d (.int n)), some (.d w), some (.d (pr (x, y))), some (.d (.list (IL p))), none, none]) (by simp [ioOk, Vl.owned, startE, mSeq, mIfS, mOp2, mIxA, mV, lk, mK, ixR, sq, pk, Bx.ok, Bx.x, atI, ixN, ofSum, bo, Res.rs, mAsg, gTp, gs1, gs0, gSbA, stB, gNm, mD, fz, mB, mAs, pks, mRet, finF, resF, outsF, outI, gAdd, Mp.gSub, gMod, gDiv, gMulA, gInt, gDivmod, mSkip, mAnd, mOr, mNot, mBr, mIf, mExpr, gGt_int, gLt_int, gLe_int, gEq_int, gNe_int, Ot.bind, mCall, argV, argV1, varsR, nodupN, putO, mCh, mLen, lenR, mSet, asV, mTup, mLst, allD, mIsA, okIs, known, isTy, tyD, runF, mPar, parE, asN, mFz, mIt, seqD]) rfl (fun z hz' => ?_) (by rw [IL_len, sizeLine_eq]; omega)
    obtain ⟨i, hi', rfl⟩ := List.mem_map.mp hz'
    have := mem i hi'
    have wi := f_is_within i 0 ((n : Int) - 1)
    rw [decide_eq_true this.1, decide_eq_true (show i ≤ (n : Int) - 1 by omega)] at wi
    refine ⟨[some (.d (.int n)), some (.d w), some (.d (pr (x, y))), some (.d (.list (IL p))), some (.d (.int i)), none], rfl, rfl, rfl, ?_⟩
    generalize pr (x, y) = pq at *
    simp [ioOk, Vl.owned, startE, mSeq, mIfS, mOp2, mIxA, mV, lk, mK, ixR, sq, pk, Bx.ok, Bx.x, atI, ixN, ofSum, bo, Res.rs, mAsg, gTp, gs1, gs0, gSbA, stB, gNm, mD, fz, mB, mAs, pks, mRet, finF, resF, outsF, outI, gAdd, Mp.gSub, gMod, gDiv, gMulA, gInt, gDivmod, mSkip, mAnd, mOr, mNot, mBr, mIf, mExpr, gGt_int, gLt_int, gLe_int, gEq_int, gNe_int, Ot.bind, mCall, argV, argV1, varsR, nodupN, putO, mCh, mLen, lenR, mSet, asV, mTup, mLst, allD, mIsA, okIs, known, isTy, tyD, runF, mPar, parE, asN, mFz, wi]
  have ct : Mp.cutD (IL p) (some 1) none = IL p.tail := by
    rw [cut1]
    cases p with
    | nil => rfl
    | cons a p => rfl
  have hzz : mZipN (mV 3) (mSl (mV 3) (some (mK (.int 1))) none) [some (.d (.int n)), some (.d w), some (.d (pr (x, y))), some (.d (.list (IL p))), none, none] = .ok (PL (p.zip p.tail), [some (.d (.int n)), some (.d w), some (.d (pr (x, y))), some (.d (.list (IL p))), none, none]) := by
    rw [← pairs_IL]
    unfold mZipN
    simp [ioOk, Vl.owned, startE, mSeq, mIfS, mOp2, mIxA, mV, lk, mK, ixR, sq, pk, Bx.ok, Bx.x, atI, ixN, ofSum, bo, Res.rs, mAsg, gTp, gs1, gs0, gSbA, stB, gNm, mD, fz, mB, mAs, pks, mRet, finF, resF, outsF, outI, gAdd, Mp.gSub, gMod, gDiv, gMulA, gInt, gDivmod, mSkip, mAnd, mOr, mNot, mBr, mIf, mExpr, gGt_int, gLt_int, gLe_int, gEq_int, gNe_int, Ot.bind, mCall, argV, argV1, varsR, nodupN, putO, mCh, mLen, lenR, mSet, asV, mTup, mLst, allD, mIsA, okIs, known, isTy, tyD, runF, mPar, parE, asN, mFz, mSl, mPa, slR, ct, zipLL]
  have gl : gList [w] = some (.lst (PL qs)) := by rcases hw with rfl | rfl <;> rfl
  have zl : (p.zip p.tail).length ≤ 100 := by rw [List.length_zip]; omega
  have c2 : is_why_c2 [some (.d (.int n)), some (.d w), some (.d (pr (x, y))), some (.d (.list (IL p))), none, none] = .ok (.new (.lst (TT (PL (p.zip p.tail)).length)), [some (.d (.int n)), some (.d w), some (.d (pr (x, y))), some (.d (.list (IL p))), none, none]) := by
    unfold is_why_c2
    refine mLc_all hzz rfl (fun z hz' => ?_) (by rw [PL_len, sizeLine_eq]; omega)
    obtain ⟨q, hq', rfl⟩ := List.mem_map.mp hz'
    have g := gIn_PL qs q
    rw [decide_eq_true (r4 q hq')] at g
    refine ⟨[some (.d (.int n)), some (.d w), some (.d (pr (x, y))), some (.d (.list (IL p))), none, some (.d (pr q))], rfl, rfl, rfl, ?_⟩
    generalize pr (x, y) = pq at *
    generalize pr q = pq' at *
    generalize PL qs = pqs at *
    simp [ioOk, Vl.owned, startE, mSeq, mIfS, mOp2, mIxA, mV, lk, mK, ixR, sq, pk, Bx.ok, Bx.x, atI, ixN, ofSum, bo, Res.rs, mAsg, gTp, gs1, gs0, gSbA, stB, gNm, mD, fz, mB, mAs, pks, mRet, finF, resF, outsF, outI, gAdd, Mp.gSub, gMod, gDiv, gMulA, gInt, gDivmod, mSkip, mAnd, mOr, mNot, mBr, mIf, mExpr, gGt_int, gLt_int, gLe_int, gEq_int, gNe_int, Ot.bind, mCall, argV, argV1, varsR, nodupN, putO, mCh, mLen, lenR, mSet, asV, mTup, mLst, allD, mIsA, okIs, known, isTy, tyD, runF, mPar, parE, asN, mFz, gl, g]
  have gp := gNe_pr (x, y) (x, y)
  rw [decide_eq_true rfl] at gp
  have il : F_is_list [.d (.list (IL p))] = .ok (.d (.bool true), [.d (.list (IL p))]) := by
    unfold F_is_list m_is_list
    simp [ioOk, Vl.owned, startE, mSeq, mIfS, mOp2, mIxA, mV, lk, mK, ixR, sq, pk, Bx.ok, Bx.x, atI, ixN, ofSum, bo, Res.rs, mAsg, gTp, gs1, gs0, gSbA, stB, gNm, mD, fz, mB, mAs, pks, mRet, finF, resF, outsF, outI, gAdd, Mp.gSub, gMod, gDiv, gMulA, gInt, gDivmod, mSkip, mAnd, mOr, mNot, mBr, mIf, mExpr, gGt_int, gLt_int, gLe_int, gEq_int, gNe_int, Ot.bind, mCall, argV, argV1, varsR, nodupN, putO, mCh, mLen, lenR, mSet, asV, mTup, mLst, allD, mIsA, okIs, known, isTy, tyD, runF, mPar, parE, asN, mFz]
  have hl2 : ¬ (((IL p).length : Int) < 2) := by rw [IL_len]; omega
  have i0 : mIxA (mV 3) (mK (.int 0)) [some (.d (.int n)), some (.d w), some (.d (pr (x, y))), some (.d (.list (IL p))), none, none] = .ok (.d (.int x), [some (.d (.int n)), some (.d w), some (.d (pr (x, y))), some (.d (.list (IL p))), none, none]) := by
    cases p with
    | nil => cases r2
    | cons a p =>
      cases r2
      show mIxA (mV 3) (mK (.int 0)) [_, _, _, some (.d (.list (.int x :: IL p))), none, none] = _
      generalize pr (x, y) = pq at *
      simp [ioOk, Vl.owned, startE, mSeq, mIfS, mOp2, mIxA, mV, lk, mK, ixR, sq, pk, Bx.ok, Bx.x, atI, ixN, ofSum, bo, Res.rs, mAsg, gTp, gs1, gs0, gSbA, stB, gNm, mD, fz, mB, mAs, pks, mRet, finF, resF, outsF, outI, gAdd, Mp.gSub, gMod, gDiv, gMulA, gInt, gDivmod, mSkip, mAnd, mOr, mNot, mBr, mIf, mExpr, gGt_int, gLt_int, gLe_int, gEq_int, gNe_int, Ot.bind, mCall, argV, argV1, varsR, nodupN, putO, mCh, mLen, lenR, mSet, asV, mTup, mLst, allD, mIsA, okIs, known, isTy, tyD, runF, mPar, parE, asN, mFz]
      rfl
  have i1 : mIxA (mV 3) (mNegK 1) [some (.d (.int n)), some (.d w), some (.d (pr (x, y))), some (.d (.list (IL p))), none, none] = .ok (.d (.int y), [some (.d (.int n)), some (.d w), some (.d (pr (x, y))), some (.d (.list (IL p))), none, none]) := by
    have g : (IL p)[(IL p).length - 1]? = some (.int y) := by
      unfold IL
      rw [List.length_map, List.getElem?_map]
      rw [List.getLast?_eq_getElem?] at r3
      rw [r3]
      rfl
    have h1 : 1 ≤ ((IL p).length : Int) := by rw [IL_len]; omega
    have h2 : (-1 + ((IL p).length : Int)).toNat = (IL p).length - 1 := by omega
    generalize IL p = ip at *
    generalize pr (x, y) = pq at *
    simp [ioOk, Vl.owned, startE, mSeq, mIfS, mOp2, mIxA, mV, lk, mK, ixR, sq, pk, Bx.ok, Bx.x, atI, ixN, ofSum, bo, Res.rs, mAsg, gTp, gs1, gs0, gSbA, stB, gNm, mD, fz, mB, mAs, pks, mRet, finF, resF, outsF, outI, gAdd, Mp.gSub, gMod, gDiv, gMulA, gInt, gDivmod, mSkip, mAnd, mOr, mNot, mBr, mIf, mExpr, gGt_int, gLt_int, gLe_int, gEq_int, gNe_int, Ot.bind, mCall, argV, argV1, varsR, nodupN, putO, mCh, mLen, lenR, mSet, asV, mTup, mLst, allD, mIsA, okIs, known, isTy, tyD, runF, mPar, parE, asN, mFz, mNegK, g, h1, h2]
  unfold F_is_why m_is_why
  generalize hM0 : mIxA (mV 3) (mK (.int 0)) = M0 at i0
  generalize hM1 : mIxA (mV 3) (mNegK 1) = M1 at i1
  generalize hC1 : is_why_c1 = C1 at c1
  generalize hC2 : is_why_c2 = C2 at c2
  have ga := gAll_TT (IL p).length
  have gb := gAll_TT (PL (p.zip p.tail)).length
  generalize TT (IL p).length = t1 at c1 ga
  generalize TT (PL (p.zip p.tail)).length = t2 at c2 gb
  unfold pr at *
  generalize IL p = ip at *
  simp [ioOk, Vl.owned, startE, mSeq, mIfS, mOp2, mIxA, mV, lk, mK, ixR, sq, pk, Bx.ok, Bx.x, atI, ixN, ofSum, bo, Res.rs, mAsg, gTp, gs1, gs0, gSbA, stB, gNm, mD, fz, mB, mAs, pks, mRet, finF, resF, outsF, outI, gAdd, Mp.gSub, gMod, gDiv, gMulA, gInt, gDivmod, mSkip, mAnd, mOr, mNot, mBr, mIf, mExpr, gGt_int, gLt_int, gLe_int, gEq_int, gNe_int, Ot.bind, mCall, argV, argV1, varsR, nodupN, putO, mCh, mLen, lenR, mSet, asV, mTup, mLst, allD, mIsA, okIs, known, isTy, tyD, runF, mPar, parE, asN, mFz, w1, w2, il, hl2, c1, ga, gp, i0, i1, c2, gb]
end My
set_option maxHeartbeats 2000000
namespace My
open PySem PySem.Spec PyProof.Rows L2 Mp RZ
theorem eqv_OO (n : Int) (ps qs : List (Int × Int)) : PyData.eqv (O n ps) (O n qs) = decide (ps = qs) := by
  unfold O
  simp [PyData.eqv, PyData.eqvAll, eqvAll_PL]
theorem eqv_ON (n : Int) (ps : List (Int × Int)) : PyData.eqv (O n ps) .none = false := by
  unfold O
  simp [PyData.eqv]
theorem eqv_NN : PyData.eqv .none .none = true := by simp [PyData.eqv]
theorem gNe_OO (n : Int) (ps qs : List (Int × Int)) : gNe (O n ps) (O n qs) = some (.d (.bool (!decide (ps = qs)))) := by
  unfold gNe
  rw [plain_O, plain_O, shal_O, eqv_OO]
  rfl
theorem ni_2 (n : Int) (p q : List (Int × Int)) : gNotInA .none (.list [O n p, O n q]) = some (.d (.bool true)) := by
  show gNotIn .none (.list [O n p, O n q]) = _
  unfold gNotIn
  simp [PyData.plainAll, plain_O, PyData.plain, shal, PyData.depth, eqv_ON]
theorem ni_1 (n : Int) (p : List (Int × Int)) : gNotInA .none (.list [O n p, .none]) = some (.d (.bool false)) := by
  show gNotIn .none (.list [O n p, .none]) = _
  unfold gNotIn
  simp [PyData.plainAll, plain_O, PyData.plain, shal, PyData.depth, eqv_NN]
theorem ni_0 (n : Int) (p : List (Int × Int)) : gNotInA .none (.list [.none, O n p]) = some (.d (.bool false)) := by
  show gNotIn .none (.list [.none, O n p]) = _
  unfold gNotIn
  simp [PyData.plainAll, plain_O, PyData.plain, shal, PyData.depth, eqv_NN]
theorem ni_o (n : Int) {p q r : List (Int × Int)} (h1 : p ≠ r) (h2 : q ≠ r) : gNotInA (O n r) (.list [O n p, O n q]) = some (.d (.bool true)) := by
  show gNotIn (O n r) (.list [O n p, O n q]) = _
  unfold gNotIn
  simp [PyData.plainAll, plain_O, shal_O, eqv_OO, h1, h2]
theorem ne_ON (n : Int) (p : List (Int × Int)) : gNe (.list [O n p, .none]) (.list [O n p, .none]) = some (.d (.bool false)) :=
  gNe_same (by simp [PyData.plain, PyData.plainAll, plain_O]) (by
    have := depth_PL p
    unfold O
    simp only [PyData.depth, PyData.depthAll]
    omega)
/-- reporting what is told changes nothing -/
theorem wr_told {n : Nat} {ps : List (Int × Int)} (h : Ordr n ps) {x y : Int} (hxy : (x, y) ∈ ps) : F_with_report [.d (O n ps), .d (pr (x, y))] = .ok (.d (O n ps), [.d (O n ps), .d (pr (x, y))]) := by
  have hi := h.inr _ hxy
  have hne : x ≠ y := fun e => h.irr x (by rw [e] at hxy ⊢; exact hxy)
  obtain ⟨rs, ho, hm, e⟩ := f_with_report h (a := x) (b := y) ⟨hi.1, hi.2.1, hi.2.2.1, hi.2.2.2, hne⟩ (fun hb => h.irr x (h.tr _ _ _ hxy hb))
  have : rs = ps := ordr_uniq ho h fun u v => by
    rw [hm]
    constructor
    · rintro (h1 | ⟨h1, h2⟩)
      · exact h1
      · have k1 : (u, y) ∈ ps := by
          rcases h1 with rfl | h1
          · exact hxy
          · exact h.tr _ _ _ h1 hxy
        rcases h2 with rfl | h2
        · exact k1
        · exact h.tr _ _ _ k1 h2
    · exact fun h1 => .inl h1
  rw [this] at e
  exact e
theorem wr_more {n : Nat} {ps : List (Int × Int)} (h : Ordr n ps) {x y : Int} (hx : 0 ≤ x ∧ x < n) (hy : 0 ≤ y ∧ y < n) (hne : x ≠ y) (hn : (y, x) ∉ ps) : ∃ rs, Ordr n rs ∧ (x, y) ∈ rs ∧ F_with_report [.d (O n ps), .d (pr (x, y))] = .ok (.d (O n rs), [.d (O n ps), .d (pr (x, y))]) := by
  obtain ⟨rs, ho, hm, e⟩ := f_with_report h (a := x) (b := y) ⟨hx.1, hx.2, hy.1, hy.2, hne⟩ hn
  exact ⟨rs, ho, (hm x y).mpr (.inr ⟨.inl rfl, .inl rfl⟩), e⟩
end My
set_option maxHeartbeats 4000000
namespace My
open PySem PySem.Spec PyProof.Rows L2 Mp RZ
theorem other_ne {n : Nat} {x d : Int} (hx : 0 ≤ x ∧ x < n) (hd : 0 ≤ d ∧ d < (n : Int) - 1) : ∃ o, (x + 1 + d) % (n : Int) = o ∧ 0 ≤ o ∧ o < n ∧ x ≠ o := by
  by_cases h : x + 1 + d < n
  · exact ⟨x + 1 + d, Int.emod_eq_of_lt (by omega) h, by omega, h, by omega⟩
  · refine ⟨x + 1 + d - n, ?_, by omega, by omega, by omega⟩
    rw [← Int.sub_emod_right, Int.emod_eq_of_lt (by omega) (by omega)]
theorem r_draw {n : Nat} {ps : List (Int × Int)} (h : Ordr n ps) (h2 : 2 ≤ n) (a b : Int) (hp : PotOk a b) (v2 v5 v6 v7 v8 v9 v10 v11 v12 v13 v14 v15 v16 : Option Vl) : ∃ a' b' y8 y10 y15 y16, PotOk a' b' ∧ _law_right_b5 (RT a b n ps v2 (some (.d (.tuple (PL (nbR n ps))))) v5 v6 v7 v8 v9 v10 v11 v12 v13 v14 v15 v16) =
    .ok (.next, RT a' b' n ps v2 (some (.d (.tuple (PL (nbR n ps))))) v5 v6 v7 y8 v9 y10 v11 v12 v13 v14 y15 y16) := by
  have hlo := h.lo
  have hhi := h.hi
  have hl := h.len45
  obtain ⟨x, a1, b1, x0, x1, p1, p1', e1⟩ := s_draw a b n hp.1 hp.2 (by omega)
  obtain ⟨d, a2, b2, d0, d1, p2, p2', e2⟩ := s_draw a1 b1 ((n : Int) - 1) p1 p1' (by omega)
  obtain ⟨y, hy, y0, y1, hne⟩ := other_ne ⟨x0, x1⟩ ⟨d0, d1⟩
  have ha := l_apart n ps x y
  have hn0 : 0 < (n : Int) := by omega
  have hn0' : 0 < n := by omega
  have i1 : gInA (.tuple [.int x, .int y]) (.tuple (PL ps)) = some (.d (.bool (decide ((x, y) ∈ ps)))) := gIn_PT ps (x, y)
  have bf : gNe (.bool false) (.bool false) = some (.d (.bool false)) := by simp [gNe, PyData.plain, shal, PyData.depth, PyData.eqv]
  have bt : gNe (.bool true) (.bool true) = some (.d (.bool false)) := by simp [gNe, PyData.plain, shal, PyData.depth, PyData.eqv]
  by_cases c1 : (x, y) ∈ ps
  · have hna : ¬ Apart ps x y := fun t => t.2.1 c1
    rw [decide_eq_false hna] at ha
    rw [decide_eq_true c1] at i1
    have w1 := wr_told h c1
    have w2 := f_with_report_none h (a := y) (b := x) ⟨y0, y1, x0, x1, fun t => hne t.symm⟩ c1
    have g1 := ni_1 n ps
    have g2 := ne_ON n ps
    have hnl : (nbR n ps).length ≤ 45 := Nat.le_trans (List.length_filter_le _ _) hl
    have sl : ∀ z, (succ (nbR n ps) z).length < 64 := fun z => by have := succ_len (nbR n ps) z; omega
    have nr : Pm.InR n (nbR n ps) := fun q hq => h.inr q (nb_sub q hq)
    have ni : Pm.Irr (nbR n ps) := fun z hz => h.irr z (nb_sub _ hz)
    obtain ⟨p, hr, hpl, e3⟩ := f_why (n := n) (by omega) nr ni (by omega) sl (w := .tuple (PL (nbR n ps))) (.inr rfl) (x := x) (y := y) ⟨x0, x1, y0, y1, hne⟩ ((nb_gen h.inr h.irr h.tr).mpr c1)
    have e4 := f_is_why (n := n) (by omega) nr ni (by omega) (w := .tuple (PL (nbR n ps))) (.inr rfl) (x := x) (y := y) ⟨x0, x1, y0, y1, hne⟩ hr (by omega)
    refine ⟨a2, b2, some (.own (.lst [O n ps, .none])), some (.d (.int x)), some (.d (.int y)), some (.d (.list (IL p))), ⟨p2, p2'⟩, ?_⟩
    unfold _law_right_b5
    unfold RT PotV
    unfold O pr at *
    generalize PL ps = pps at *
    generalize PL (nbR n ps) = nbs at *
    generalize IL p = ip at *
    simp [ioOk, Vl.owned, startE, mSeq, mIfS, mOp2, mIxA, mV, lk, mK, ixR, sq, pk, Bx.ok, Bx.x, atI, ixN, ofSum, bo, Res.rs, mAsg, gTp, gs1, gs0, gSbA, stB, gNm, mD, fz, mB, mAs, pks, mRet, finF, resF, outsF, outI, gAdd, Mp.gSub, gMod, gDiv, gMulA, gInt, gDivmod, mSkip, mAnd, mOr, mNot, mBr, mIf, mExpr, gGt_int, gLt_int, gLe_int, gEq_int, gNe_int, Ot.bind, mCall, argV, argV1, varsR, nodupN, putO, mCh, mLen, lenR, mSet, asV, mTup, mLst, allD, mIsA, okIs, known, isTy, tyD, runF, mPar, parE, asN, mFz, e1, e2, hn0, hn0', hy, ha, w1, w2, g1, g2, bf, i1, e3, e4, gIsNot]
  · rw [decide_eq_false c1] at i1
    by_cases c2 : (y, x) ∈ ps
    · have hna : ¬ Apart ps x y := fun t => t.2.2 c2
      rw [decide_eq_false hna] at ha
      have w1 := wr_told h c2
      have w2 := f_with_report_none h (a := x) (b := y) ⟨x0, x1, y0, y1, hne⟩ c2
      have g1 := ni_0 n ps
      refine ⟨a2, b2, some (.own (.lst [.none, O n ps])), some (.d (.int x)), some (.d (.int y)), v16, ⟨p2, p2'⟩, ?_⟩
      unfold _law_right_b5
      unfold RT PotV
      unfold O pr at *
      generalize PL ps = pps at *
      generalize PL (nbR n ps) = nbs at *
      simp [ioOk, Vl.owned, startE, mSeq, mIfS, mOp2, mIxA, mV, lk, mK, ixR, sq, pk, Bx.ok, Bx.x, atI, ixN, ofSum, bo, Res.rs, mAsg, gTp, gs1, gs0, gSbA, stB, gNm, mD, fz, mB, mAs, pks, mRet, finF, resF, outsF, outI, gAdd, Mp.gSub, gMod, gDiv, gMulA, gInt, gDivmod, mSkip, mAnd, mOr, mNot, mBr, mIf, mExpr, gGt_int, gLt_int, gLe_int, gEq_int, gNe_int, Ot.bind, mCall, argV, argV1, varsR, nodupN, putO, mCh, mLen, lenR, mSet, asV, mTup, mLst, allD, mIsA, okIs, known, isTy, tyD, runF, mPar, parE, asN, mFz, e1, e2, hn0, hn0', hy, ha, w1, w2, g1, bf, i1]
    · have hna : Apart ps x y := ⟨hne, c1, c2⟩
      rw [decide_eq_true hna] at ha
      obtain ⟨r1, o1, m1, w1⟩ := wr_more h ⟨x0, x1⟩ ⟨y0, y1⟩ hne c2
      obtain ⟨r2, o2, m2, w2⟩ := wr_more h ⟨y0, y1⟩ ⟨x0, x1⟩ (fun t => hne t.symm) c1
      have ne12 : r1 ≠ r2 := fun t => by
        subst t
        exact o1.irr x (o1.tr _ _ _ m1 m2)
      have g1 := ni_2 n r1 r2
      have g2 := gNe_OO n r1 r2
      rw [decide_eq_false ne12] at g2
      have g3 := ni_o n (p := r1) (q := r2) (r := ps) (fun t => c1 (by rw [← t]; exact m1)) (fun t => c2 (by rw [← t]; exact m2))
      refine ⟨a2, b2, some (.own (.lst [O n r1, O n r2])), some (.d (.int x)), some (.d (.int y)), v16, ⟨p2, p2'⟩, ?_⟩
      unfold _law_right_b5
      unfold RT PotV
      unfold O pr at *
      generalize PL ps = pps at *
      generalize PL r1 = q1 at *
      generalize PL r2 = q2 at *
      generalize PL (nbR n ps) = nbs at *
      simp [ioOk, Vl.owned, startE, mSeq, mIfS, mOp2, mIxA, mV, lk, mK, ixR, sq, pk, Bx.ok, Bx.x, atI, ixN, ofSum, bo, Res.rs, mAsg, gTp, gs1, gs0, gSbA, stB, gNm, mD, fz, mB, mAs, pks, mRet, finF, resF, outsF, outI, gAdd, Mp.gSub, gMod, gDiv, gMulA, gInt, gDivmod, mSkip, mAnd, mOr, mNot, mBr, mIf, mExpr, gGt_int, gLt_int, gLe_int, gEq_int, gNe_int, Ot.bind, mCall, argV, argV1, varsR, nodupN, putO, mCh, mLen, lenR, mSet, asV, mTup, mLst, allD, mIsA, okIs, known, isTy, tyD, runF, mPar, parE, asN, mFz, e1, e2, hn0, hn0', hy, ha, w1, w2, g1, g2, g3, bt, i1]
theorem r_draws {n : Nat} {ps : List (Int × Int)} (h : Ordr n ps) (a b : Int) (hp : PotOk a b) (v2 v5 v6 v7 v8 v9 v10 v11 v12 v13 v14 v15 v16 : Option Vl) : ∃ a' b' y8 y10 y14 y15 y16, PotOk a' b' ∧ _law_right_l5 (RT a b n ps v2 (some (.d (.tuple (PL (nbR n ps))))) v5 v6 v7 v8 v9 v10 v11 v12 v13 v14 v15 v16) =
    .ok (.next, RT a' b' n ps v2 (some (.d (.tuple (PL (nbR n ps))))) v5 v6 v7 y8 v9 y10 v11 v12 v13 y14 y15 y16) := by
  have hlo := h.lo
  obtain ⟨k, hk, r1⟩ : ∃ k : Nat, (k = 0 ∨ 2 ≤ n) ∧ mRange rg1 [(mIf (mOp2 gGt (mV 3) (mK (.int 1))) (mK (.int 6)) (mK (.int 0)))] (RT a b n ps v2 (some (.d (.tuple (PL (nbR n ps))))) v5 v6 v7 v8 v9 v10 v11 v12 v13 v14 v15 v16) =
      .ok (IL (upI k), RT a b n ps v2 (some (.d (.tuple (PL (nbR n ps))))) v5 v6 v7 v8 v9 v10 v11 v12 v13 v14 v15 v16) := by
    by_cases c : 2 ≤ n
    · have c1 : 1 < (n : Int) := by omega
      have c2 : 1 < n := by omega
      exact ⟨6, .inr c, range1 (n := 6) (by omega) (by unfold RT PotV; simp [ioOk, Vl.owned, startE, mSeq, mIfS, mOp2, mIxA, mV, lk, mK, ixR, sq, pk, Bx.ok, Bx.x, atI, ixN, ofSum, bo, Res.rs, mAsg, gTp, gs1, gs0, gSbA, stB, gNm, mD, fz, mB, mAs, pks, mRet, finF, resF, outsF, outI, gAdd, Mp.gSub, gMod, gDiv, gMulA, gInt, gDivmod, mSkip, mAnd, mOr, mNot, mBr, mIf, mExpr, gGt_int, gLt_int, gLe_int, gEq_int, gNe_int, Ot.bind, mCall, argV, argV1, varsR, nodupN, putO, mCh, mLen, lenR, mSet, asV, mTup, mLst, allD, mIsA, okIs, known, isTy, tyD, runF, mPar, parE, asN, mFz, c1, c2])⟩
    · have c1 : ¬ (1 < (n : Int)) := by omega
      have c2 : ¬ (1 < n) := by omega
      exact ⟨0, .inl rfl, range1 (n := 0) (by omega) (by unfold RT PotV; simp [ioOk, Vl.owned, startE, mSeq, mIfS, mOp2, mIxA, mV, lk, mK, ixR, sq, pk, Bx.ok, Bx.x, atI, ixN, ofSum, bo, Res.rs, mAsg, gTp, gs1, gs0, gSbA, stB, gNm, mD, fz, mB, mAs, pks, mRet, finF, resF, outsF, outI, gAdd, Mp.gSub, gMod, gDiv, gMulA, gInt, gDivmod, mSkip, mAnd, mOr, mNot, mBr, mIf, mExpr, gGt_int, gLt_int, gLe_int, gEq_int, gNe_int, Ot.bind, mCall, argV, argV1, varsR, nodupN, putO, mCh, mLen, lenR, mSet, asV, mTup, mLst, allD, mIsA, okIs, known, isTy, tyD, runF, mPar, parE, asN, mFz, c1, c2])⟩
  obtain ⟨ρ', e, a', b', y8, y10, y14, y15, y16, hp', rfl⟩ := forGo_inv (g := gNm [0] 14) (b := _law_right_b5) (fun i ρ => ∃ a b y8 y10 y14 y15 y16, PotOk a b ∧ ρ = RT a b n ps v2 (some (.d (.tuple (PL (nbR n ps))))) v5 v6 v7 y8 v9 y10 v11 v12 v13 y14 y15 y16)
    (IL (upI k)) 0 (RT a b n ps v2 (some (.d (.tuple (PL (nbR n ps))))) v5 v6 v7 v8 v9 v10 v11 v12 v13 v14 v15 v16) ⟨_, _, _, _, _, _, _, hp, rfl⟩ fun i x ρ hx ⟨a, b, y8, y10, y14, y15, y16, hp, eρ⟩ => by
      subst eρ
      obtain ⟨hi, rfl⟩ := upI_at hx
      obtain ⟨a', b', z8, z10, z15, z16, hp', e⟩ := r_draw h (by rcases hk with rfl | hk; omega; exact hk) a b hp v2 v5 v6 v7 y8 v9 y10 v11 v12 v13 (some (.d (.int (i : Int)))) y15 y16
      exact ⟨_, .next, e, .inl rfl, _, _, _, _, _, _, _, hp', rfl⟩
  refine ⟨a', b', y8, y10, y14, y15, y16, hp', ?_⟩
  unfold _law_right_l5 mFor
  rw [r1]
  exact e
end My
set_option maxHeartbeats 4000000
namespace My
open PySem PySem.Spec PyProof.Rows L2 Mp RZ
theorem base_Oc {n : Int} (hn : 0 ≤ n ∧ n ≤ 11) {ps : List (Int × Int)} (h : ∀ q ∈ ps, 0 ≤ q.1 ∧ q.1 ≤ 10 ∧ 0 ≤ q.2 ∧ q.2 ≤ 10) (hl : ps.length ≤ 60) : Fine 61 3000 10 (O n ps) := by
  obtain ⟨i1, i2⟩ := base_PLc h
  have d := depth_PL ps
  have e1 : base 60 (O n ps) = true := by
    unfold O
    simp only [base, baseA, i1, PL_len, List.length_cons, List.length_nil, Bool.and_true, Bool.true_and, Bool.and_eq_true, decide_eq_true_eq]
    omega
  obtain ⟨n1, n2, n3, n4⟩ := base_nice e1
  refine ⟨n2, ?_, ?_, by unfold clean; rw [n3]; simp⟩
  · have : wt (O n ps) = (wt (.str "order") + 2 + (5 + 2 + (wtA (PL ps) + 3 + 2 + 0))) + 3 := rfl
    have hs : wt (.str "order") = 7 := by decide +kernel
    omega
  · unfold O
    simp [PyData.depth, PyData.depthAll]
    omega
theorem gRepr_ord {n : Nat} {ps : List (Int × Int)} (h : Ordr n ps) : ∃ s : Str, gReprD [O n ps] = some (.d (.str s)) := by
  have hi := h.hi
  have f := base_Oc (n := n) (by omega) (fun q hq => by have := h.inr q hq; omega) (by have := h.len45; omega)
  obtain ⟨n1, n2, n3, n4⟩ := base_nice (c := 60) (d := O n ps) (by
    obtain ⟨i1, _⟩ := base_PLc (ps := ps) (fun q hq => by have := h.inr q hq; omega)
    unfold O
    have := h.len45
    simp only [base, baseA, i1, PL_len, List.length_cons, List.length_nil, Bool.and_true, Bool.true_and, Bool.and_eq_true, decide_eq_true_eq]
    omega)
  exact ⟨_, gRepr_fine (c := 60) (w := 3000) (k := 10) ⟨n1, f.wt, f.dep, f.cl⟩ (by omega) (by omega) (by omega)⟩
theorem q_right (a b : Int) (hp : PotOk a b) : ∃ outs, F__law_right [.own (.lst [.int a, .int b])] = .ok (.d (.bool true), outs) := by
  obtain ⟨a1, b1, n, ps, p1, n1, n2, h, e1⟩ := q_order 8 (by omega) a b hp
  have hlo := h.lo
  have hhi := h.hi
  have hl := h.len45
  obtain ⟨s1, r1⟩ := gRepr_ord h
  have q1 := gEq_str s1
  obtain ⟨y5, y6, e2⟩ := r_near h a1 b1 (some (.d (.str s1))) none none none none none none none none none none none none
  have e3 := f_neighbours h
  have hnl : (nbR n ps).length ≤ 45 := Nat.le_trans (List.length_filter_le _ _) hl
  obtain ⟨x1, x2, x3⟩ := base_PT (ps := nbR n ps) (fun q hq => by have := h.inr q (nb_sub q hq); omega) (by omega)
  obtain ⟨s2, r2⟩ := rep_two x1 x1 x2 x2 x3 x3
  have q2 := gNe_str s2
  obtain ⟨rs, ho, hm, e4⟩ := f_order_any (n := n) (by omega) (fun q hq => h.inr q (nb_sub q hq)) (fun z hz => h.irr z (nb_sub _ hz)) (by omega) (fun z => by have := succ_len (nbR n ps) z; omega)
    (fun z hz => h.irr z ((nb_gen h.inr h.irr h.tr).mp hz)) (w := .tuple (PL (nbR n ps))) (v := .d (.tuple (PL (nbR n ps)))) ⟨.inr rfl, .inl rfl⟩
  have er : rs = ps := ordr_uniq ho h fun u v => by rw [hm]; exact nb_gen h.inr h.irr h.tr
  subst er
  have g1 := gNe_O n rs
  obtain ⟨y7, y8, e5⟩ := r_lesses h a1 b1 (some (.d (.str s1))) y5 y6 none none none none none none none none none none
  obtain ⟨y10, e6⟩ := r_every h a1 b1 (some (.d (.str s1))) (some (.d (.tuple (PL (nbR n rs))))) y5 y6 y7 y8 none none none none none none none
  have e7 := f_apart_x h
  have al : (apA rs n n).length ≤ 60 := by
    have h1 := apA_len (ps := rs) (n := n) n (Nat.le_refl _)
    have h2 : n * (n - 1) ≤ 8 * 7 := Nat.mul_le_mul (by omega) (by omega)
    omega
  obtain ⟨z1, z2, z3⟩ := base_PT (ps := apA rs n n) (fun q hq => by have := apA_mem (ps := rs) n (Nat.le_refl n) q hq; omega) al
  obtain ⟨s3, r3⟩ := rep_two z1 z1 z2 z2 z3 z3
  have q3 := gNe_str s3
  have e8 := f_turned h
  obtain ⟨y12, y13, e9⟩ := r_runners h a1 b1 (some (.d (.str s1))) (some (.d (.tuple (PL (nbR n rs))))) y5 y6 y7 y8 (some (.own (.lst (PL (apA rs n n))))) y10 none none none none none
  obtain ⟨a3, b3, w8, w10, w14, w15, w16, p3, e10⟩ := r_draws h a1 b1 p1 (some (.d (.str s1))) y5 y6 y7 y8 (some (.own (.lst (PL (apA rs n n))))) y10 (some (.d (O n (srt (Tb rs))))) y12 y13 none none none
  have e11 := f_is_order h.turn
  refine ⟨[.own (.lst [.int a3, .int b3])], ?_⟩
  unfold F__law_right m__law_right
  generalize hL1 : _law_right_l1 = L1 at e2
  generalize hL2 : _law_right_l2 = L2 at e5
  generalize hL3 : _law_right_l3 = L3 at e6
  generalize hL4 : _law_right_l4 = L4 at e9
  generalize hL5 : _law_right_l5 = L5 at e10
  unfold RT PotV at e2 e5 e6 e9 e10
  generalize O n (srt (Tb rs)) = far at *
  generalize PL (nbR n rs) = nb at *
  generalize PL (apA rs n n) = ap at *
  have rep2 : ∀ x : D, List.replicate 2 x = [x, x] := fun x => rfl
  unfold O at *
  generalize PL rs = prs at *
  simp [ioOk, Vl.owned, startE, mSeq, mIfS, mOp2, mIxA, mV, lk, mK, ixR, sq, pk, Bx.ok, Bx.x, atI, ixN, ofSum, bo, Res.rs, mAsg, gTp, gs1, gs0, gSbA, stB, gNm, mD, fz, mB, mAs, pks, mRet, finF, resF, outsF, outI, gAdd, Mp.gSub, gMod, gDiv, gMulA, gInt, gDivmod, mSkip, mAnd, mOr, mNot, mBr, mIf, mExpr, gGt_int, gLt_int, gLe_int, gEq_int, gNe_int, Ot.bind, mCall, argV, argV1, varsR, nodupN, putO, mCh, mLen, lenR, mSet, asV, mTup, mLst, allD, mIsA, okIs, known, isTy, tyD, runF, mPar, parE, asN, mFz, e1, r1, e2, e3, r2, q2, e4, g1, e5, e6, e7, r3, q3, e8, e9, e10, e11, q1, mPar, parE, asN, mFz, gTuple, mCallK, Mp.pickR, gIs, rep2, sizeLine_eq]
end My
set_option maxHeartbeats 0
namespace My
open PySem PySem.Spec PyProof.Rows L2 Mp RZ
/-! the head -/
def d__law_draw : He.DefD := ⟨("_law_draw", none), "_law_draw", "_law_draw", defArgs s__law_draw, defBody s__law_draw, defScope s__law_draw, [], []⟩
def d__law_closed : He.DefD := ⟨("_law_closed", none), "_law_closed", "_law_closed", defArgs s__law_closed, defBody s__law_closed, defScope s__law_closed, [], []⟩
def d__law_order : He.DefD := ⟨("_law_order", none), "_law_order", "_law_order", defArgs s__law_order, defBody s__law_order, defScope s__law_order, [], []⟩
def d_is_tuple : He.DefD := ⟨("is_tuple", none), "is_tuple", "is_tuple", defArgs s_is_tuple, defBody s_is_tuple, defScope s_is_tuple, [], []⟩
def d_is_integer : He.DefD := ⟨("is_integer", none), "is_integer", "is_integer", defArgs s_is_integer, defBody s_is_integer, defScope s_is_integer, [], []⟩
def d_is_within : He.DefD := ⟨("is_within", none), "is_within", "is_within", defArgs s_is_within, defBody s_is_within, defScope s_is_within, [], []⟩
def d_is_pair_of : He.DefD := ⟨("is_pair_of", none), "is_pair_of", "is_pair_of", defArgs s_is_pair_of, defBody s_is_pair_of, defScope s_is_pair_of, [], []⟩
def d_is_closed : He.DefD := ⟨("is_closed", none), "is_closed", "is_closed", defArgs s_is_closed, defBody s_is_closed, defScope s_is_closed, [], []⟩
def d_is_order_value : He.DefD := ⟨("is_order_value", none), "is_order_value", "is_order_value", defArgs s_is_order_value, defBody s_is_order_value, defScope s_is_order_value, [], []⟩
def d_want_order : He.DefD := ⟨("want_order", none), "want_order", "want_order", defArgs s_want_order, defBody s_want_order, defScope s_want_order, [], []⟩
def d_neighbours_of : He.DefD := ⟨("neighbours_of", none), "neighbours_of", "neighbours_of", defArgs s_neighbours_of, defBody s_neighbours_of, defScope s_neighbours_of, [], []⟩
def d_neighbours : He.DefD := ⟨("neighbours", none), "neighbours", "neighbours", defArgs s_neighbours, defBody s_neighbours, defScope s_neighbours, [], []⟩
def d_want_many : He.DefD := ⟨("want_many", none), "want_many", "want_many", defArgs s_want_many, defBody s_want_many, defScope s_want_many, [], []⟩
def d_is_list : He.DefD := ⟨("is_list", none), "is_list", "is_list", defArgs s_is_list, defBody s_is_list, defScope s_is_list, [], []⟩
def d_are_reports_of : He.DefD := ⟨("are_reports_of", none), "are_reports_of", "are_reports_of", defArgs s_are_reports_of, defBody s_are_reports_of, defScope s_are_reports_of, [], []⟩
def d_want_reports : He.DefD := ⟨("want_reports", none), "want_reports", "want_reports", defArgs s_want_reports, defBody s_want_reports, defScope s_want_reports, [], []⟩
def d_follows : He.DefD := ⟨("follows", none), "follows", "follows", defArgs s_follows, defBody s_follows, defScope s_follows, [], []⟩
def d_closed_by : He.DefD := ⟨("closed_by", none), "closed_by", "closed_by", defArgs s_closed_by, defBody s_closed_by, defScope s_closed_by, [], []⟩
def d_made : He.DefD := ⟨("made", none), "made", "made", defArgs s_made, defBody s_made, defScope s_made, [], []⟩
def d_order_of : He.DefD := ⟨("order_of", none), "order_of", "order_of", defArgs s_order_of, defBody s_order_of, defScope s_order_of, [], []⟩
def d__law_apart : He.DefD := ⟨("_law_apart", none), "_law_apart", "_law_apart", defArgs s__law_apart, defBody s__law_apart, defScope s__law_apart, [], []⟩
def d_are_apart : He.DefD := ⟨("are_apart", none), "are_apart", "are_apart", defArgs s_are_apart, defBody s_are_apart, defScope s_are_apart, [], []⟩
def d_apart_pairs : He.DefD := ⟨("apart_pairs", none), "apart_pairs", "apart_pairs", defArgs s_apart_pairs, defBody s_apart_pairs, defScope s_apart_pairs, [], []⟩
def d_apart : He.DefD := ⟨("apart", none), "apart", "apart", defArgs s_apart, defBody s_apart, defScope s_apart, [], []⟩
def d_turned_about : He.DefD := ⟨("turned_about", none), "turned_about", "turned_about", defArgs s_turned_about, defBody s_turned_about, defScope s_turned_about, [], []⟩
def d_want_runner : He.DefD := ⟨("want_runner", none), "want_runner", "want_runner", defArgs s_want_runner, defBody s_want_runner, defScope s_want_runner, [], []⟩
def d_ahead_of : He.DefD := ⟨("ahead_of", none), "ahead_of", "ahead_of", defArgs s_ahead_of, defBody s_ahead_of, defScope s_ahead_of, [], []⟩
def d_ahead : He.DefD := ⟨("ahead", none), "ahead", "ahead", defArgs s_ahead, defBody s_ahead, defScope s_ahead, [], []⟩
def d_behind_of : He.DefD := ⟨("behind_of", none), "behind_of", "behind_of", defArgs s_behind_of, defBody s_behind_of, defScope s_behind_of, [], []⟩
def d_behind : He.DefD := ⟨("behind", none), "behind", "behind", defArgs s_behind, defBody s_behind, defScope s_behind, [], []⟩
def d_want_pair : He.DefD := ⟨("want_pair", none), "want_pair", "want_pair", defArgs s_want_pair, defBody s_want_pair, defScope s_want_pair, [], []⟩
def d_with_report : He.DefD := ⟨("with_report", none), "with_report", "with_report", defArgs s_with_report, defBody s_with_report, defScope s_with_report, [], []⟩
def d_why : He.DefD := ⟨("why", none), "why", "why", defArgs s_why, defBody s_why, defScope s_why, [], []⟩
def d_is_why : He.DefD := ⟨("is_why", none), "is_why", "is_why", defArgs s_is_why, defBody s_is_why, defScope s_is_why, [], []⟩
def d_is_order : He.DefD := ⟨("is_order", none), "is_order", "is_order", defArgs s_is_order, defBody s_is_order, defScope s_is_order, [], []⟩
def d__law_right : He.DefD := ⟨("_law_right", none), "_law_right", "_law_right", defArgs s__law_right, defBody s__law_right, defScope s__law_right, [], []⟩
def d__law_pot : He.DefD := ⟨("_law_pot", none), "_law_pot", "_law_pot", defArgs s__law_pot, defBody s__law_pot, defScope s__law_pot, [], []⟩
def d_law : He.DefD := ⟨("law", none), "law", "law", defArgs s_law, defBody s_law, defScope s_law, [], []⟩
def fnl : List He.DefD := [d__law_draw, d__law_closed, d__law_order, d_is_tuple, d_is_integer, d_is_within, d_is_pair_of, d_is_closed, d_is_order_value, d_want_order, d_neighbours_of, d_neighbours, d_want_many, d_is_list, d_are_reports_of, d_want_reports, d_follows, d_closed_by, d_made, d_order_of, d__law_apart, d_are_apart, d_apart_pairs, d_apart, d_turned_about, d_want_runner, d_ahead_of, d_ahead, d_behind_of, d_behind, d_want_pair, d_with_report, d_why, d_is_why, d_is_order, d__law_right, d__law_pot, d_law]
def fa1 : List He.Fa := [.glo "_law_draw", .glo "_law_closed", .glo "_law_order", .glo "is_tuple", .glo "is_integer", .glo "is_within", .glo "is_pair_of", .glo "is_closed", .glo "is_order_value", .glo "want_order", .glo "neighbours_of", .glo "neighbours", .glo "want_many", .glo "is_list", .glo "are_reports_of", .glo "want_reports", .glo "follows", .glo "closed_by", .glo "made", .glo "order_of", .glo "_law_apart", .glo "are_apart", .glo "apart_pairs", .glo "apart", .glo "turned_about", .glo "want_runner", .glo "ahead_of", .glo "ahead", .glo "behind_of", .glo "behind", .glo "want_pair", .glo "with_report", .glo "why", .glo "is_why", .glo "is_order", .glo "_law_right", .glo "_law_pot", .glo "law"]
def fa2 : List He.Fa := [.free "len", .free "isinstance", .free "all", .free "any", .free "abs", .free "int", .free "sum", .free "list", .free "tuple", .free "divmod", .free "repr", .free "sorted", .free "set", .free "max", .free "min", .free "range", .free "zip", .free "enumerate", .free "bool", .free "str"]
def fa3 : List He.Fa := [.int "MOST_RUNNERS" 10, .int "MOST_REPORTS" 200]
def fal : List He.Fa := fa1 ++ (fa2 ++ fa3)
abbrev R : PySem.W.OpenRow := PySem.W.OpenLaw.row PySem.Challenge.rw_toldahead_k12_whole_neighbours_ahead_beh
abbrev hk : PySem.W.Hook := He.hookD 4 fal fnl
def ob (s : PySem.W.SharedT) : He.AlD := He.obsDG 4 fal fnl (HandSHeadRun.getT s)
theorem ob_eq (s : PySem.W.SharedT) : ob s = hk.obs s.abs := He.obsDG_eq (HandSHeadRun.getT_eq s)
def nm0 : List PySem.Str := ["is_integer", "is_within", "is_list", "is_tuple", "OrderError", "InvalidOrder", "InvalidRunner", "InvalidPair", "InvalidMany", "InvalidReports", "MOST_RUNNERS", "MOST_REPORTS", "is_pair_of", "is_closed", "is_order_value", "want_order", "want_many", "want_runner", "want_pair", "are_reports_of", "want_reports", "made", "behind_of", "ahead_of", "follows", "closed_by", "are_apart", "apart_pairs", "neighbours_of", "is_order"]
def nm1 : List PySem.Str := ["order_of", "why", "is_why", "ahead", "behind", "apart", "neighbours", "turned_about", "with_report", "_law_pot", "_law_draw", "_law_closed", "_law_order", "_law_apart", "_law_right"]
def nml : List PySem.Str := nm0 ++ nm1
theorem run (w : World) : HandSHeadRun.RunEq R (PySem.W.view R.prog [50]) hk ob 3000 nml w := by
  intro os
  kernel_rfl
theorem kw_neighbours_order {K : PySem.W.Frag} {f : Addr} {fd : FuncData} (F : FunD K "neighbours" "neighbours" (defArgs s_neighbours) (defBody s_neighbours) (defScope s_neighbours) [] [] f fd) (s : Shared) (us ws : List Value) (h1 : us.length = 0) (h2 : ws.length = [("order" : Str)].length) : BindsTo s fd ⟨us, List.zip [("order" : Str)] ws⟩ (P_neighbours.zip (pickL [0] (us ++ ws))) := by
  obtain ⟨oc, od, dV, kV, doc, pm, an, cdv, ct, osl, rfl, lk, hcd, hD, hK⟩ := F.ex
  rcases hD with ⟨_, rfl⟩ | ⟨e, _⟩
  · match us, ws, h1, h2 with
    | [], [_], _, _ => exact .of_eq rfl
  · exact absurd rfl e
theorem kw_apart_order {K : PySem.W.Frag} {f : Addr} {fd : FuncData} (F : FunD K "apart" "apart" (defArgs s_apart) (defBody s_apart) (defScope s_apart) [] [] f fd) (s : Shared) (us ws : List Value) (h1 : us.length = 0) (h2 : ws.length = [("order" : Str)].length) : BindsTo s fd ⟨us, List.zip [("order" : Str)] ws⟩ (P_apart.zip (pickL [0] (us ++ ws))) := by
  obtain ⟨oc, od, dV, kV, doc, pm, an, cdv, ct, osl, rfl, lk, hcd, hD, hK⟩ := F.ex
  rcases hD with ⟨_, rfl⟩ | ⟨e, _⟩
  · match us, ws, h1, h2 with
    | [], [_], _, _ => exact .of_eq rfl
  · exact absurd rfl e
theorem kw_ahead_runner_order {K : PySem.W.Frag} {f : Addr} {fd : FuncData} (F : FunD K "ahead" "ahead" (defArgs s_ahead) (defBody s_ahead) (defScope s_ahead) [] [] f fd) (s : Shared) (us ws : List Value) (h1 : us.length = 0) (h2 : ws.length = [("runner" : Str), ("order" : Str)].length) : BindsTo s fd ⟨us, List.zip [("runner" : Str), ("order" : Str)] ws⟩ (P_ahead.zip (pickL [1, 0] (us ++ ws))) := by
  obtain ⟨oc, od, dV, kV, doc, pm, an, cdv, ct, osl, rfl, lk, hcd, hD, hK⟩ := F.ex
  rcases hD with ⟨_, rfl⟩ | ⟨e, _⟩
  · match us, ws, h1, h2 with
    | [], [_, _], _, _ => exact .of_eq rfl
  · exact absurd rfl e
theorem kw_behind_runner_order {K : PySem.W.Frag} {f : Addr} {fd : FuncData} (F : FunD K "behind" "behind" (defArgs s_behind) (defBody s_behind) (defScope s_behind) [] [] f fd) (s : Shared) (us ws : List Value) (h1 : us.length = 0) (h2 : ws.length = [("runner" : Str), ("order" : Str)].length) : BindsTo s fd ⟨us, List.zip [("runner" : Str), ("order" : Str)] ws⟩ (P_behind.zip (pickL [1, 0] (us ++ ws))) := by
  obtain ⟨oc, od, dV, kV, doc, pm, an, cdv, ct, osl, rfl, lk, hcd, hD, hK⟩ := F.ex
  rcases hD with ⟨_, rfl⟩ | ⟨e, _⟩
  · match us, ws, h1, h2 with
    | [], [_, _], _, _ => exact .of_eq rfl
  · exact absurd rfl e
theorem facts {P : Program} {w : World} {K : PySem.W.Frag} {h : Heap} {mg : Str → Option Value} {f : Addr} (X : K.In h) (G : h.Ns mainGlobals mg) (hfa : mg ("law" : Str) = some (.ref f)) (c : He.SaysD fal fnl K) :
    ∃ fd : FuncData, (∀ (s : Shared) (v : Value), BindsTo s fd ⟨[v], []⟩ [("script", v)]) ∧ ∀ base : Heap, K.In base → base.Ns mainGlobals mg → FnG P w K mg base 15 f fd P_law (spF K 1 F_law) := by
  obtain ⟨fd__law_draw, FD__law_draw⟩ := c.def_ 0 (d := d__law_draw) rfl
  have e__law_draw := He.glo_ok X G (c.fact 0 (f := .glo "_law_draw") rfl)
  obtain ⟨fd__law_closed, FD__law_closed⟩ := c.def_ 1 (d := d__law_closed) rfl
  have e__law_closed := He.glo_ok X G (c.fact 1 (f := .glo "_law_closed") rfl)
  obtain ⟨fd__law_order, FD__law_order⟩ := c.def_ 2 (d := d__law_order) rfl
  have e__law_order := He.glo_ok X G (c.fact 2 (f := .glo "_law_order") rfl)
  obtain ⟨fd_is_tuple, FD_is_tuple⟩ := c.def_ 3 (d := d_is_tuple) rfl
  have e_is_tuple := He.glo_ok X G (c.fact 3 (f := .glo "is_tuple") rfl)
  obtain ⟨fd_is_integer, FD_is_integer⟩ := c.def_ 4 (d := d_is_integer) rfl
  have e_is_integer := He.glo_ok X G (c.fact 4 (f := .glo "is_integer") rfl)
  obtain ⟨fd_is_within, FD_is_within⟩ := c.def_ 5 (d := d_is_within) rfl
  have e_is_within := He.glo_ok X G (c.fact 5 (f := .glo "is_within") rfl)
  obtain ⟨fd_is_pair_of, FD_is_pair_of⟩ := c.def_ 6 (d := d_is_pair_of) rfl
  have e_is_pair_of := He.glo_ok X G (c.fact 6 (f := .glo "is_pair_of") rfl)
  obtain ⟨fd_is_closed, FD_is_closed⟩ := c.def_ 7 (d := d_is_closed) rfl
  have e_is_closed := He.glo_ok X G (c.fact 7 (f := .glo "is_closed") rfl)
  obtain ⟨fd_is_order_value, FD_is_order_value⟩ := c.def_ 8 (d := d_is_order_value) rfl
  have e_is_order_value := He.glo_ok X G (c.fact 8 (f := .glo "is_order_value") rfl)
  obtain ⟨fd_want_order, FD_want_order⟩ := c.def_ 9 (d := d_want_order) rfl
  have e_want_order := He.glo_ok X G (c.fact 9 (f := .glo "want_order") rfl)
  obtain ⟨fd_neighbours_of, FD_neighbours_of⟩ := c.def_ 10 (d := d_neighbours_of) rfl
  have e_neighbours_of := He.glo_ok X G (c.fact 10 (f := .glo "neighbours_of") rfl)
  obtain ⟨fd_neighbours, FD_neighbours⟩ := c.def_ 11 (d := d_neighbours) rfl
  have e_neighbours := He.glo_ok X G (c.fact 11 (f := .glo "neighbours") rfl)
  obtain ⟨fd_want_many, FD_want_many⟩ := c.def_ 12 (d := d_want_many) rfl
  have e_want_many := He.glo_ok X G (c.fact 12 (f := .glo "want_many") rfl)
  obtain ⟨fd_is_list, FD_is_list⟩ := c.def_ 13 (d := d_is_list) rfl
  have e_is_list := He.glo_ok X G (c.fact 13 (f := .glo "is_list") rfl)
  obtain ⟨fd_are_reports_of, FD_are_reports_of⟩ := c.def_ 14 (d := d_are_reports_of) rfl
  have e_are_reports_of := He.glo_ok X G (c.fact 14 (f := .glo "are_reports_of") rfl)
  obtain ⟨fd_want_reports, FD_want_reports⟩ := c.def_ 15 (d := d_want_reports) rfl
  have e_want_reports := He.glo_ok X G (c.fact 15 (f := .glo "want_reports") rfl)
  obtain ⟨fd_follows, FD_follows⟩ := c.def_ 16 (d := d_follows) rfl
  have e_follows := He.glo_ok X G (c.fact 16 (f := .glo "follows") rfl)
  obtain ⟨fd_closed_by, FD_closed_by⟩ := c.def_ 17 (d := d_closed_by) rfl
  have e_closed_by := He.glo_ok X G (c.fact 17 (f := .glo "closed_by") rfl)
  obtain ⟨fd_made, FD_made⟩ := c.def_ 18 (d := d_made) rfl
  have e_made := He.glo_ok X G (c.fact 18 (f := .glo "made") rfl)
  obtain ⟨fd_order_of, FD_order_of⟩ := c.def_ 19 (d := d_order_of) rfl
  have e_order_of := He.glo_ok X G (c.fact 19 (f := .glo "order_of") rfl)
  obtain ⟨fd__law_apart, FD__law_apart⟩ := c.def_ 20 (d := d__law_apart) rfl
  have e__law_apart := He.glo_ok X G (c.fact 20 (f := .glo "_law_apart") rfl)
  obtain ⟨fd_are_apart, FD_are_apart⟩ := c.def_ 21 (d := d_are_apart) rfl
  have e_are_apart := He.glo_ok X G (c.fact 21 (f := .glo "are_apart") rfl)
  obtain ⟨fd_apart_pairs, FD_apart_pairs⟩ := c.def_ 22 (d := d_apart_pairs) rfl
  have e_apart_pairs := He.glo_ok X G (c.fact 22 (f := .glo "apart_pairs") rfl)
  obtain ⟨fd_apart, FD_apart⟩ := c.def_ 23 (d := d_apart) rfl
  have e_apart := He.glo_ok X G (c.fact 23 (f := .glo "apart") rfl)
  obtain ⟨fd_turned_about, FD_turned_about⟩ := c.def_ 24 (d := d_turned_about) rfl
  have e_turned_about := He.glo_ok X G (c.fact 24 (f := .glo "turned_about") rfl)
  obtain ⟨fd_want_runner, FD_want_runner⟩ := c.def_ 25 (d := d_want_runner) rfl
  have e_want_runner := He.glo_ok X G (c.fact 25 (f := .glo "want_runner") rfl)
  obtain ⟨fd_ahead_of, FD_ahead_of⟩ := c.def_ 26 (d := d_ahead_of) rfl
  have e_ahead_of := He.glo_ok X G (c.fact 26 (f := .glo "ahead_of") rfl)
  obtain ⟨fd_ahead, FD_ahead⟩ := c.def_ 27 (d := d_ahead) rfl
  have e_ahead := He.glo_ok X G (c.fact 27 (f := .glo "ahead") rfl)
  obtain ⟨fd_behind_of, FD_behind_of⟩ := c.def_ 28 (d := d_behind_of) rfl
  have e_behind_of := He.glo_ok X G (c.fact 28 (f := .glo "behind_of") rfl)
  obtain ⟨fd_behind, FD_behind⟩ := c.def_ 29 (d := d_behind) rfl
  have e_behind := He.glo_ok X G (c.fact 29 (f := .glo "behind") rfl)
  obtain ⟨fd_want_pair, FD_want_pair⟩ := c.def_ 30 (d := d_want_pair) rfl
  have e_want_pair := He.glo_ok X G (c.fact 30 (f := .glo "want_pair") rfl)
  obtain ⟨fd_with_report, FD_with_report⟩ := c.def_ 31 (d := d_with_report) rfl
  have e_with_report := He.glo_ok X G (c.fact 31 (f := .glo "with_report") rfl)
  obtain ⟨fd_why, FD_why⟩ := c.def_ 32 (d := d_why) rfl
  have e_why := He.glo_ok X G (c.fact 32 (f := .glo "why") rfl)
  obtain ⟨fd_is_why, FD_is_why⟩ := c.def_ 33 (d := d_is_why) rfl
  have e_is_why := He.glo_ok X G (c.fact 33 (f := .glo "is_why") rfl)
  obtain ⟨fd_is_order, FD_is_order⟩ := c.def_ 34 (d := d_is_order) rfl
  have e_is_order := He.glo_ok X G (c.fact 34 (f := .glo "is_order") rfl)
  obtain ⟨fd__law_right, FD__law_right⟩ := c.def_ 35 (d := d__law_right) rfl
  have e__law_right := He.glo_ok X G (c.fact 35 (f := .glo "_law_right") rfl)
  obtain ⟨fd__law_pot, FD__law_pot⟩ := c.def_ 36 (d := d__law_pot) rfl
  have e__law_pot := He.glo_ok X G (c.fact 36 (f := .glo "_law_pot") rfl)
  obtain ⟨fd_law, FD_law⟩ := c.def_ 37 (d := d_law) rfl
  have e_law := He.glo_ok X G (c.fact 37 (f := .glo "law") rfl)
  have bt : Bt mg := ⟨He.free_ok X G (c.fact 38 (f := .free "len") rfl), He.free_ok X G (c.fact 39 (f := .free "isinstance") rfl), He.free_ok X G (c.fact 40 (f := .free "all") rfl), He.free_ok X G (c.fact 41 (f := .free "any") rfl), He.free_ok X G (c.fact 42 (f := .free "abs") rfl), He.free_ok X G (c.fact 43 (f := .free "int") rfl), He.free_ok X G (c.fact 44 (f := .free "sum") rfl), He.free_ok X G (c.fact 45 (f := .free "list") rfl), He.free_ok X G (c.fact 46 (f := .free "tuple") rfl), He.free_ok X G (c.fact 47 (f := .free "divmod") rfl), He.free_ok X G (c.fact 48 (f := .free "repr") rfl), He.free_ok X G (c.fact 49 (f := .free "sorted") rfl), He.free_ok X G (c.fact 50 (f := .free "set") rfl), He.free_ok X G (c.fact 51 (f := .free "max") rfl), He.free_ok X G (c.fact 52 (f := .free "min") rfl), He.free_ok X G (c.fact 53 (f := .free "range") rfl), He.free_ok X G (c.fact 54 (f := .free "zip") rfl), He.free_ok X G (c.fact 55 (f := .free "enumerate") rfl), He.free_ok X G (c.fact 56 (f := .free "bool") rfl), He.free_ok X G (c.fact 57 (f := .free "str") rfl)⟩
  have g_MOST_RUNNERS := He.int_ok X G (c.fact 58 (f := .int "MOST_RUNNERS" 10) rfl)
  have g_MOST_REPORTS := He.int_ok X G (c.fact 59 (f := .int "MOST_REPORTS" 200) rfl)
  have el := hfa.symm.trans e_law
  cases el
  have b := FunD.bindsA (ps := P_law) FD_law fun _ _ _ _ _ _ us hl => match us, hl with | [_], _ => rfl
  refine ⟨fd_law, fun s v => b s [v] rfl, fun base _ _ => ?_⟩
  have c__law_draw := cal__law_draw (P := P) (w := w) (base := base) bt FD__law_draw e__law_draw
  have c__law_closed := cal__law_closed (P := P) (w := w) (base := base) bt FD__law_closed e__law_closed
  have c__law_order := cal__law_order (P := P) (w := w) (base := base) bt c__law_draw c__law_closed FD__law_order e__law_order
  have c_is_tuple := cal_is_tuple (P := P) (w := w) (base := base) bt FD_is_tuple e_is_tuple
  have c_is_integer := cal_is_integer (P := P) (w := w) (base := base) bt FD_is_integer e_is_integer
  have c_is_within := cal_is_within (P := P) (w := w) (base := base) bt c_is_integer FD_is_within e_is_within
  have c_is_pair_of := cal_is_pair_of (P := P) (w := w) (base := base) bt c_is_tuple c_is_within FD_is_pair_of e_is_pair_of
  have c_is_closed := cal_is_closed (P := P) (w := w) (base := base) bt FD_is_closed e_is_closed
  have c_is_order_value := cal_is_order_value (P := P) (w := w) (base := base) bt c_is_tuple c_is_within c_is_pair_of c_is_closed g_MOST_RUNNERS FD_is_order_value e_is_order_value
  have c_want_order := cal_want_order (P := P) (w := w) (base := base) bt c_is_order_value FD_want_order e_want_order
  have c_neighbours_of := cal_neighbours_of (P := P) (w := w) (base := base) bt FD_neighbours_of e_neighbours_of
  have c_neighbours := cal_neighbours (P := P) (w := w) (base := base) bt c_want_order c_neighbours_of FD_neighbours e_neighbours
  have k_neighbours_order : CalK P w K mg base 13 "neighbours" 0 P_neighbours ["order"] [0] F_neighbours := ⟨_, _, ok_neighbours bt c_want_order c_neighbours_of FD_neighbours, e_neighbours, FD_neighbours.kp, kw_neighbours_order FD_neighbours⟩
  have c_want_many := cal_want_many (P := P) (w := w) (base := base) bt c_is_within g_MOST_RUNNERS FD_want_many e_want_many
  have c_is_list := cal_is_list (P := P) (w := w) (base := base) bt FD_is_list e_is_list
  have c_are_reports_of := cal_are_reports_of (P := P) (w := w) (base := base) bt c_is_list c_is_pair_of g_MOST_REPORTS FD_are_reports_of e_are_reports_of
  have c_want_reports := cal_want_reports (P := P) (w := w) (base := base) bt c_want_many c_are_reports_of FD_want_reports e_want_reports
  have c_follows := cal_follows (P := P) (w := w) (base := base) bt FD_follows e_follows
  have c_closed_by := cal_closed_by (P := P) (w := w) (base := base) bt c_follows FD_closed_by e_closed_by
  have c_made := cal_made (P := P) (w := w) (base := base) bt FD_made e_made
  have c_order_of := cal_order_of (P := P) (w := w) (base := base) bt c_want_reports c_closed_by c_made FD_order_of e_order_of
  have c__law_apart := cal__law_apart (P := P) (w := w) (base := base) bt FD__law_apart e__law_apart
  have c_are_apart := cal_are_apart (P := P) (w := w) (base := base) bt FD_are_apart e_are_apart
  have c_apart_pairs := cal_apart_pairs (P := P) (w := w) (base := base) bt c_are_apart FD_apart_pairs e_apart_pairs
  have c_apart := cal_apart (P := P) (w := w) (base := base) bt c_want_order c_apart_pairs FD_apart e_apart
  have k_apart_order : CalK P w K mg base 13 "apart" 0 P_apart ["order"] [0] F_apart := ⟨_, _, ok_apart bt c_want_order c_apart_pairs FD_apart, e_apart, FD_apart.kp, kw_apart_order FD_apart⟩
  have c_turned_about := cal_turned_about (P := P) (w := w) (base := base) bt c_want_order c_made FD_turned_about e_turned_about
  have c_want_runner := cal_want_runner (P := P) (w := w) (base := base) bt c_is_within FD_want_runner e_want_runner
  have c_ahead_of := cal_ahead_of (P := P) (w := w) (base := base) bt FD_ahead_of e_ahead_of
  have c_ahead := cal_ahead (P := P) (w := w) (base := base) bt c_want_order c_want_runner c_ahead_of FD_ahead e_ahead
  have k_ahead_runner_order : CalK P w K mg base 13 "ahead" 0 P_ahead ["runner", "order"] [1, 0] F_ahead := ⟨_, _, ok_ahead bt c_want_order c_want_runner c_ahead_of FD_ahead, e_ahead, FD_ahead.kp, kw_ahead_runner_order FD_ahead⟩
  have c_behind_of := cal_behind_of (P := P) (w := w) (base := base) bt FD_behind_of e_behind_of
  have c_behind := cal_behind (P := P) (w := w) (base := base) bt c_want_order c_want_runner c_behind_of FD_behind e_behind
  have k_behind_runner_order : CalK P w K mg base 13 "behind" 0 P_behind ["runner", "order"] [1, 0] F_behind := ⟨_, _, ok_behind bt c_want_order c_want_runner c_behind_of FD_behind, e_behind, FD_behind.kp, kw_behind_runner_order FD_behind⟩
  have c_want_pair := cal_want_pair (P := P) (w := w) (base := base) bt c_is_pair_of FD_want_pair e_want_pair
  have c_with_report := cal_with_report (P := P) (w := w) (base := base) bt c_want_order c_want_pair c_made c_closed_by FD_with_report e_with_report
  have c_why := cal_why (P := P) (w := w) (base := base) bt c_want_reports c_want_pair c_follows FD_why e_why
  have c_is_why := cal_is_why (P := P) (w := w) (base := base) bt c_want_reports c_want_pair c_is_list c_is_within FD_is_why e_is_why
  have c_is_order := cal_is_order (P := P) (w := w) (base := base) bt c_is_order_value FD_is_order e_is_order
  have c__law_right := cal__law_right (P := P) (w := w) (base := base) bt c__law_order c_neighbours c_order_of c__law_apart c_apart c_turned_about c_ahead c_behind c__law_draw c_with_report c_why c_is_why c_is_order k_neighbours_order k_apart_order k_ahead_runner_order k_behind_runner_order FD__law_right e__law_right
  have c__law_pot := cal__law_pot (P := P) (w := w) (base := base) bt FD__law_pot e__law_pot
  exact ok_law bt c__law_right c__law_pot FD_law
end My
open PySem PySem.W PySem.Calls PyProof.Rows
theorem law_holds (hF : ∀ ns : List Int, ns.length ≤ 63 → ∃ outs, My.F_law [.scr (ns.map .int)] = .ok (.d (.bool true), outs)) : PySem.Challenge.rw_toldahead_k12_whole_neighbours_ahead_beh.Holds := by
  w_on; o_law
  refine HandSHeadRun.head_any (r := OpenLaw.row PySem.Challenge.rw_toldahead_k12_whole_neighbours_ahead_beh) (q := view (OpenLaw.row PySem.Challenge.rw_toldahead_k12_whole_neighbours_ahead_beh).prog [50]) (H := My.hk) (ob := My.ob) (M := 3000) (loose := My.nml) (d := HandSHeadRun.topDef (OpenLaw.row PySem.Challenge.rw_toldahead_k12_whole_neighbours_ahead_beh).prog 50) (kwd := []) My.ob_eq
    (by kernel_rfl) (fun s => by kernel_rfl) My.run (by kernel_rfl) (by kernel_rfl) (by kernel_rfl) (by rfl) (by first | assumption | decide +kernel) (by decide +kernel) ⟨rfl, rfl, rfl, rfl, rfl, by decide +kernel⟩ ?hw ?hc
  case hw => w_witness2
  case hc =>
    refine Mp.walk_ofG (l := PySem.Challenge.rw_toldahead_k12_whole_neighbours_ahead_beh) (n := 63) (k := 15) (x := "script") (F := My.F_law) rfl (by decide) (by kernel_rfl) ⟨rfl, by decide, by decide⟩ hF ?F
    intro w mg fa h Y G hmg0
    obtain ⟨K, KX, c⟩ := Y
    have hmg : mg ("law" : PySem.Str) = some (.ref fa) := by
      have e : (HandSHeadRun.topDef (OpenLaw.row PySem.Challenge.rw_toldahead_k12_whole_neighbours_ahead_beh).prog 50).name = ("law" : PySem.Str) := by kernel_rfl
      rw [← e]
      exact hmg0
    obtain ⟨fd, hb, hF'⟩ := My.facts (P := (PySem.Challenge.rw_toldahead_k12_whole_neighbours_ahead_beh).prog) (w := w) KX G hmg c
    exact ⟨K, fd, KX, hb, hF'⟩
namespace My
open PySem PySem.Spec PyProof.Rows L2 Mp RZ
theorem k12_hF (ns : List Int) : ∃ outs, F_law [.scr (ns.map .int)] = .ok (.d (.bool true), outs) := q_law (fun a b hp => q_right a b hp) ns
end My
theorem PySem.Challenge.cw_toldahead_k12_whole_neighbours_ahead_beh_holds : PySem.Challenge.rw_toldahead_k12_whole_neighbours_ahead_beh.Holds := by
  exact law_holds fun ns _ => My.k12_hF ns

