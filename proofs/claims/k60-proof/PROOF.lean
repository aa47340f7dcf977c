import PyProof.Rows.All
import HandS.ForMost
import HandS.ForExc
import HandS.IsInst
import HandS.Sort
import HandS.Flow
import KE.KDictKeyed
import KE.DataCmp
import HandS.Style
import KE.SortData
import HandS.More
import HandS.TupLen
import PyProof.DictTruth
import PySem.Challenge.RW_gateproof_k60_whole_least_tables_of_pref
import HandS.EndBits
set_option Elab.async false
set_option linter.all false
set_option maxRecDepth 100000
/-! A layer of trees over HandS: tuples are trees, lists and dicts stand in a list of objects. Readings of the hand layer are given by predicate transformers over these. -/
namespace Tr
open PySem PySem.Spec L2

/-- a value: tuples are trees, lists and dicts are numbers of objects -/
inductive T where
  | non | bl (b : Bool) | int (i : Int) | str (x : Str) | tup (l : List T) | ref (n : Nat) | kls (ns : List Int)
/-- an object: a list, a list that is only read, a dict, a dict that is walked -/
inductive O where
  | lst (xs : List T) | rol (xs : List T) | dict (kvs : List (T × T)) | frd (kvs : List (T × T))
abbrev Hh := List O
abbrev Sl := List (Option T)

/-- a tuple at an address -/
def Tup (K : PySem.W.Frag) (H : Hp) (a : Addr) (ys : List V) : Prop := H a = some (.tup ys) ∨
    ∃ (o : Obj) (its : Array Value) (n : Nat), K.lookup a = some o ∧ o.cls = .type "tuple" ∧ o.data = .seq its n ∧ its.size ≤ sizeLine ∧ Vals ys its.toList
theorem Tup.sq {K : PySem.W.Frag} {H : Hp} {a : Addr} {ys : List V} (h : Tup K H a ys) : SqT K H a ys := by
  rcases h with h | h
  · exact .inl (.inl h)
  · exact .inr h

/-- a list of whole numbers that is one of the module's own -/
def Kl (K : PySem.W.Frag) (a : Addr) (xs : List V) : Prop :=
    ∃ (o : Obj) (its : Array Value) (n : Nat), K.lookup a = some o ∧ o.cls = .type "list" ∧ o.dict = none ∧ o.data = .seq its n ∧ its.size ≤ sizeLine ∧ Vals xs its.toList
mutual
inductive RT (K : PySem.W.Frag) (ρ : List Addr) (H : Hp) : T → V → Prop
  | non : RT K ρ H .non .non
  | bl (b : Bool) : RT K ρ H (.bl b) (.bl b)
  | int (i : Int) : RT K ρ H (.int i) (.int i)
  | str (x : Str) : RT K ρ H (.str x) (.str x)
  | tup {l : List T} {a : Addr} {ys : List V} : Tup K H a ys → RTs K ρ H l ys → RT K ρ H (.tup l) (.ref a)
  | ref {n : Nat} {a : Addr} : ρ[n]? = some a → RT K ρ H (.ref n) (.ref a)
  | kls {ns : List Int} {a : Addr} : Kl K a (ns.map V.int) → RT K ρ H (.kls ns) (.ref a)
inductive RTs (K : PySem.W.Frag) (ρ : List Addr) (H : Hp) : List T → List V → Prop
  | nil : RTs K ρ H [] []
  | cons {t : T} {v : V} {l : List T} {ys : List V} : RT K ρ H t v → RTs K ρ H l ys → RTs K ρ H (t :: l) (v :: ys)
end

/-- what a piece of program may do: more objects, what is not ours stands -/
structure Ext (ρ : List Addr) (H : Hp) (ρ' : List Addr) (H' : Hp) : Prop where
  pre : ρ <+: ρ'
  new : ∀ a ∈ ρ', a ∈ ρ ∨ H a = none
  keep : ∀ a, H a ≠ none → a ∉ ρ → H' a = H a
  frz : ∀ a o u, H a = some (.frz o u) → H' a = some (.frz o u)

theorem Ext.refl (ρ : List Addr) (H : Hp) : Ext ρ H ρ H := ⟨List.prefix_refl _, fun _ h => .inl h, fun _ _ _ => rfl, fun _ _ _ e => e⟩
theorem Ext.trans {ρ ρ1 ρ2 : List Addr} {H H1 H2 : Hp} (a : Ext ρ H ρ1 H1) (b : Ext ρ1 H1 ρ2 H2) : Ext ρ H ρ2 H2 where
  pre := List.IsPrefix.trans a.pre b.pre
  new := fun x hx => by
    rcases b.new x hx with h | h
    · exact a.new x h
    · by_cases hn : H x = none
      · exact .inr hn
      · by_cases hm : x ∈ ρ
        · exact .inl hm
        · have := a.keep x hn hm
          rw [h] at this
          exact .inr this.symm
  keep := fun x hn hm => by
    have e := a.keep x hn hm
    have hm1 : x ∉ ρ1 := fun z => (a.new x z).elim hm hn
    rw [b.keep x (by rw [e]; exact hn) hm1, e]
  frz := fun x o u e => b.frz x o u (a.frz x o u e)

mutual
theorem RT.mono {K : PySem.W.Frag} {ρ ρ' : List Addr} {H H' : Hp} (pre : ρ <+: ρ') (k : ∀ a ys, H a = some (.tup ys) → H' a = some (.tup ys)) : ∀ (t : T) (v : V), RT K ρ H t v → RT K ρ' H' t v
  | .non, _, h => by cases h; exact .non
  | .bl _, _, h => by cases h; exact .bl _
  | .int _, _, h => by cases h; exact .int _
  | .str _, _, h => by cases h; exact .str _
  | .kls _, _, h => by
    cases h with
    | kls e => exact .kls e
  | .ref n, _, h => by
    cases h with
    | ref e =>
      obtain ⟨z, rfl⟩ := pre
      refine .ref ?_
      rw [List.getElem?_append_left (List.getElem?_eq_some_iff.mp e).1]
      exact e
  | .tup l, _, h => by
    cases h with
    | tup e r =>
      refine .tup ?_ (RTs.mono pre k l _ r)
      rcases e with e | e
      · exact .inl (k _ _ e)
      · exact .inr e
theorem RTs.mono {K : PySem.W.Frag} {ρ ρ' : List Addr} {H H' : Hp} (pre : ρ <+: ρ') (k : ∀ a ys, H a = some (.tup ys) → H' a = some (.tup ys)) : ∀ (l : List T) (vs : List V), RTs K ρ H l vs → RTs K ρ' H' l vs
  | [], _, h => by cases h; exact .nil
  | t :: l, _, h => by
    cases h with
    | cons a b => exact .cons (RT.mono pre k t _ a) (RTs.mono pre k l _ b)
end

section
variable {K : PySem.W.Frag} {ρ : List Addr} {H : Hp}
theorem RTs.length : ∀ {l : List T} {vs : List V}, RTs K ρ H l vs → l.length = vs.length
  | [], _, h => by cases h; rfl
  | _ :: l, _, h => by
    cases h with
    | cons a b => simp [RTs.length b]
theorem RTs.append : ∀ {l l' : List T} {vs vs' : List V}, RTs K ρ H l vs → RTs K ρ H l' vs' → RTs K ρ H (l ++ l') (vs ++ vs')
  | [], _, _, _, h, h' => by cases h; exact h'
  | _ :: l, _, _, _, h, h' => by
    cases h with
    | cons a b => exact .cons a (RTs.append b h')
theorem RTs.get : ∀ {l : List T} {vs : List V} {i : Nat} {v : V}, RTs K ρ H l vs → vs[i]? = some v → ∃ t, l[i]? = some t ∧ RT K ρ H t v
  | [], _, _, _, h, e => by cases h; simp at e
  | t :: l, _, i, v, h, e => by
    cases h with
    | cons a b =>
      cases i with
      | zero => simp at e; subst e; exact ⟨t, rfl, a⟩
      | succ i => simpa using RTs.get b (by simpa using e)
theorem RTs.getT : ∀ {l : List T} {vs : List V} {i : Nat} {t : T}, RTs K ρ H l vs → l[i]? = some t → ∃ v, vs[i]? = some v ∧ RT K ρ H t v
  | [], _, _, _, h, e => by simp at e
  | t :: l, _, i, v, h, e => by
    cases h with
    | @cons _ w _ _ a b =>
      cases i with
      | zero => simp at e; subst e; exact ⟨w, rfl, a⟩
      | succ i => simpa using RTs.getT b (by simpa using e)
theorem RTs.take : ∀ {l : List T} {vs : List V} (n : Nat), RTs K ρ H l vs → RTs K ρ H (l.take n) (vs.take n)
  | [], _, n, h => by cases h; simp; exact .nil
  | _ :: _, _, 0, h => by simp; exact .nil
  | _ :: l, _, n + 1, h => by
    cases h with
    | cons a b => exact .cons a (RTs.take n b)
theorem RTs.drop : ∀ {l : List T} {vs : List V} (n : Nat), RTs K ρ H l vs → RTs K ρ H (l.drop n) (vs.drop n)
  | [], _, n, h => by cases h; simp; exact .nil
  | _ :: _, _, 0, h => by simpa using h
  | _ :: l, _, n + 1, h => by
    cases h with
    | cons a b => exact RTs.drop n b
theorem RTs.set : ∀ {l : List T} {vs : List V} (n : Nat) {t : T} {v : V}, RTs K ρ H l vs → RT K ρ H t v → RTs K ρ H (l.set n t) (vs.set n v)
  | [], _, n, _, _, h, _ => by cases h; exact .nil
  | _ :: _, _, 0, _, _, h, r => by
    cases h with
    | cons a b => exact .cons r b
  | _ :: l, _, n + 1, _, _, h, r => by
    cases h with
    | cons a b => exact .cons a (RTs.set n b r)
theorem RTs.dropLast {l : List T} {vs : List V} (h : RTs K ρ H l vs) : RTs K ρ H l.dropLast vs.dropLast := by
  rw [List.dropLast_eq_take, List.dropLast_eq_take, h.length]
  exact h.take _
theorem RTs.reverse : ∀ {l : List T} {vs : List V}, RTs K ρ H l vs → RTs K ρ H l.reverse vs.reverse
  | [], _, h => by cases h; exact .nil
  | _ :: l, _, h => by
    cases h with
    | cons a b => simpa using (RTs.reverse b).append (.cons a .nil)
theorem RTs.ints : ∀ {ns : List Int} {vs : List V}, RTs K ρ H (ns.map T.int) vs → vs = ns.map V.int
  | [], _, h => by cases h; rfl
  | _ :: ns, _, h => by
    cases h with
    | cons a b => cases a; rw [RTs.ints b]; rfl
theorem RTs.of_ints : ∀ (ns : List Int), RTs K ρ H (ns.map T.int) (ns.map V.int)
  | [] => .nil
  | n :: ns => .cons (.int n) (RTs.of_ints ns)
theorem RTs.bls : ∀ {bs : List Bool} {vs : List V}, RTs K ρ H (bs.map T.bl) vs → vs = bs.map V.bl
  | [], _, h => by cases h; rfl
  | _ :: ns, _, h => by
    cases h with
    | cons a b => cases a; rw [RTs.bls b]; rfl
end

/-! ### dicts -/
mutual
/-- a key up to == -/
def kq : T → NestedKey
  | .non => .none
  | .bl b => .num (if b = true then 1 else 0)
  | .int i => .num i
  | .str x => .text x
  | .tup l => .tup (kqs l)
  | .ref _ => .none
  | .kls _ => .none
def kqs : List T → List NestedKey
  | [] => []
  | t :: l => kq t :: kqs l
end
mutual
/-- no objects within -/
def pureT : T → Bool
  | .ref _ => false
  | .kls _ => false
  | .tup l => pureTs l
  | _ => true
def pureTs : List T → Bool
  | [] => true
  | t :: l => pureT t && pureTs l
end
def isTup : T → Bool
  | .tup _ => true
  | _ => false
/-- what may be a key -/
def okKey (t : T) : Bool := pureT t && decide ((kq t).depth ≤ 8)

def dget (kvs : List (T × T)) (k : T) : Option T := (kvs.find? fun p => decide (kq p.1 = kq k)).map (·.2)
def dput (kvs : List (T × T)) (k v : T) : List (T × T) :=
  if kvs.any (fun p => decide (kq p.1 = kq k)) then kvs.map (fun p => if kq p.1 = kq k then (p.1, v) else p) else kvs ++ [(k, v)]

/-- the entries es stand in the dict at a -/
def rawD (a : Addr) (es : List DictEntry) (h : Heap) : Prop := ∃ o ep, h.get? a = some o ∧ o.ExactDict ∧ o.data = .dict es.toArray ep
theorem rawD_stay {a : Addr} {es : List DictEntry} : ∀ h1 h2 : Heap, rawD a es h1 → (∀ o, h1.get? a = some o → h2.get? a = some o) → rawD a es h2 :=
  fun h1 h2 ⟨o, ep, e, x, d⟩ k => ⟨o, ep, k _ e, x, d⟩

def ERel (K : PySem.W.Frag) (w : World) (ρ : List Addr) (H : Hp) (p : T × T) (e : DictEntry) : Prop :=
  okKey p.1 = true ∧ e.hash = (kq p.1).hash w ∧ (∃ t v, kq t = kq p.1 ∧ pureT t = true ∧ isTup t = isTup p.1 ∧ (isTup p.1 = true → t = p.1) ∧ RT K ρ H t v ∧ RelV v e.key) ∧ ∃ v, RT K ρ H p.2 v ∧ RelV v e.val
structure DRel (K : PySem.W.Frag) (w : World) (ρ : List Addr) (H : Hp) (kvs : List (T × T)) (es : List DictEntry) : Prop where
  en : Paired (ERel K w ρ H) kvs es
  nd : (kvs.map fun p => kq p.1).Nodup
  one : (∀ p ∈ kvs, isTup p.1 = true) ∨ ∀ p ∈ kvs, isTup p.1 = false
  sz : kvs.length ≤ sizeLine

def ObjR (K : PySem.W.Frag) (w : World) (ρ : List Addr) (H : Hp) (a : Addr) : O → Prop
  | .lst xs => ∃ ys, H a = some (.lst ys) ∧ RTs K ρ H xs ys
  | .rol xs => ∃ ob ys, H a = some (.frz ob (.lst ys)) ∧ RTs K ρ H xs ys
  | .dict kvs => (a == sysModules) = false ∧ ∃ es, H a = some (.ext (rawD a es)) ∧ DRel K w ρ H kvs es
  | .frd kvs => (a == sysModules) = false ∧ ∃ ob es, H a = some (.frz ob (.ext (rawD a es))) ∧ DRel K w ρ H kvs es

structure Rel (K : PySem.W.Frag) (w : World) (ρ : List Addr) (h : Hh) (H : Hp) : Prop where
  len : ρ.length = h.length
  nd : ρ.Nodup
  obj : ∀ (i : Nat) (o : O) (a : Addr), h[i]? = some o → ρ[i]? = some a → ObjR K w ρ H a o

theorem Paired.mp {α β : Type} {F G : α → β → Prop} : ∀ {l₁ : List α} {l₂ : List β}, Paired F l₁ l₂ → (∀ a b, F a b → G a b) → Paired G l₁ l₂
  | _, _, .nil, _ => .nil
  | _, _, .cons r t, f => .cons (f _ _ r) (Paired.mp t f)

section
variable {K : PySem.W.Frag} {w : World} {ρ ρ' : List Addr} {H H' : Hp} {h : Hh} {a : Addr}
theorem ERel.mono (pre : ρ <+: ρ') (k : ∀ a ys, H a = some (.tup ys) → H' a = some (.tup ys)) {p : T × T} {e : DictEntry} (x : ERel K w ρ H p e) : ERel K w ρ' H' p e := by
  obtain ⟨h1, h2, ⟨t, v, a1, a2, a3, a4, h3, h4⟩, u, h5, h6⟩ := x
  exact ⟨h1, h2, ⟨t, v, a1, a2, a3, a4, RT.mono pre k _ _ h3, h4⟩, u, RT.mono pre k _ _ h5, h6⟩
theorem DRel.mono (pre : ρ <+: ρ') (k : ∀ a ys, H a = some (.tup ys) → H' a = some (.tup ys)) {kvs : List (T × T)} {es : List DictEntry} (x : DRel K w ρ H kvs es) : DRel K w ρ' H' kvs es :=
  ⟨Paired.mp x.en fun _ _ z => z.mono pre k, x.nd, x.one, x.sz⟩
theorem ObjR.mono (pre : ρ <+: ρ') (k : ∀ a ys, H a = some (.tup ys) → H' a = some (.tup ys)) (e : H' a = H a) {o : O} (x : ObjR K w ρ H a o) : ObjR K w ρ' H' a o := by
  cases o with
  | lst xs => obtain ⟨ys, h1, h2⟩ := x; exact ⟨ys, e.trans h1, RTs.mono pre k _ _ h2⟩
  | rol xs => obtain ⟨ob, ys, h1, h2⟩ := x; exact ⟨ob, ys, e.trans h1, RTs.mono pre k _ _ h2⟩
  | dict kvs => obtain ⟨h0, es, h1, h2⟩ := x; exact ⟨h0, es, e.trans h1, h2.mono pre k⟩
  | frd kvs => obtain ⟨h0, ob, es, h1, h2⟩ := x; exact ⟨h0, ob, es, e.trans h1, h2.mono pre k⟩
theorem ObjR.notTup {o : O} (x : ObjR K w ρ H a o) : ∀ ys, H a ≠ some (.tup ys) := fun ys z => by
  cases o with
  | lst xs => obtain ⟨_, h1, _⟩ := x; rw [h1] at z; cases z
  | rol xs => obtain ⟨_, _, h1, _⟩ := x; rw [h1] at z; cases z
  | dict kvs => obtain ⟨_, _, h1, _⟩ := x; rw [h1] at z; cases z
  | frd kvs => obtain ⟨_, _, _, h1, _⟩ := x; rw [h1] at z; cases z
theorem ObjR.there {o : O} (x : ObjR K w ρ H a o) : H a ≠ none := fun z => by
  cases o with
  | lst xs => obtain ⟨_, h1, _⟩ := x; rw [h1] at z; cases z
  | rol xs => obtain ⟨_, _, h1, _⟩ := x; rw [h1] at z; cases z
  | dict kvs => obtain ⟨_, _, h1, _⟩ := x; rw [h1] at z; cases z
  | frd kvs => obtain ⟨_, _, _, h1, _⟩ := x; rw [h1] at z; cases z
theorem Rel.at (R : Rel K w ρ h H) {i : Nat} {o : O} (e : h[i]? = some o) : ∃ a, ρ[i]? = some a ∧ ObjR K w ρ H a o := by
  have hi : i < ρ.length := by rw [R.len]; exact (List.getElem?_eq_some_iff.mp e).1
  exact ⟨ρ[i], List.getElem?_eq_getElem hi, R.obj i o _ e (List.getElem?_eq_getElem hi)⟩
theorem Rel.mem (R : Rel K w ρ h H) {a : Addr} (ha : a ∈ ρ) : ∃ (i : Nat) (o : O), ρ[i]? = some a ∧ h[i]? = some o ∧ ObjR K w ρ H a o := by
  obtain ⟨i, e⟩ := List.mem_iff_getElem?.mp ha
  have hi : i < h.length := by rw [← R.len]; exact (List.getElem?_eq_some_iff.mp e).1
  exact ⟨i, h[i], e, List.getElem?_eq_getElem hi, R.obj i _ a (List.getElem?_eq_getElem hi) e⟩
theorem Rel.there (R : Rel K w ρ h H) {a : Addr} (ha : a ∈ ρ) : H a ≠ none := let ⟨_, _, _, _, o⟩ := R.mem ha; o.there
theorem Rel.tup_out (R : Rel K w ρ h H) {ys : List V} (e : H a = some (.tup ys)) : a ∉ ρ := fun ha => let ⟨_, _, _, _, o⟩ := R.mem ha; o.notTup ys e
theorem Rel.tups (R : Rel K w ρ h H) (x : Ext ρ H ρ' H') : ∀ a ys, H a = some (.tup ys) → H' a = some (.tup ys) := fun a ys e => by
  rw [x.keep a (by rw [e]; exact fun z => nomatch z) (R.tup_out e)]; exact e
theorem Rel.rt (R : Rel K w ρ h H) (x : Ext ρ H ρ' H') {t : T} {v : V} (r : RT K ρ H t v) : RT K ρ' H' t v := RT.mono x.pre (R.tups x) t v r
theorem Rel.rts (R : Rel K w ρ h H) (x : Ext ρ H ρ' H') {l : List T} {vs : List V} (r : RTs K ρ H l vs) : RTs K ρ' H' l vs := RTs.mono x.pre (R.tups x) l vs r

/-- a new object at the end -/
theorem Rel.push (R : Rel K w ρ h H) {u : HO} {o : O} (hn : H a = none) (new : ObjR K w (ρ ++ [a]) (upd H a u) a o) : Rel K w (ρ ++ [a]) (h ++ [o]) (upd H a u) := by
  have pre : ρ <+: ρ ++ [a] := List.prefix_append _ _
  have k : ∀ b ys, H b = some (.tup ys) → upd H a u b = some (.tup ys) := fun b ys e => by rw [upd_ne (ne_of_none e hn)]; exact e
  have ha : a ∉ ρ := fun z => R.there z hn
  refine ⟨by simp [R.len], ?_, fun i o' b e1 e2 => ?_⟩
  · rw [List.nodup_append]
    refine ⟨R.nd, by simp, fun x hx y hy => ?_⟩
    have : y = a := by simpa using hy
    subst this
    intro z; subst z; exact ha hx
  · by_cases hi : i < h.length
    · rw [List.getElem?_append_left hi] at e1
      rw [List.getElem?_append_left (by rw [R.len]; exact hi)] at e2
      refine (R.obj i o' b e1 e2).mono pre k (upd_ne ?_)
      intro z; subst z; exact ha (List.mem_of_getElem? e2)
    · have hi' : i = h.length := by
        have := (List.getElem?_eq_some_iff.mp e1).1
        simp at this; omega
      subst hi'
      have e3 : o = o' := by simpa using e1
      have e4 : a = b := by
        rw [← R.len] at e2
        simpa using e2
      subst e3 e4
      exact new
theorem Ext.push {u : HO} (hn : H a = none) : Ext ρ H (ρ ++ [a]) (upd H a u) where
  pre := List.prefix_append _ _
  new := fun b hb => by
    rcases List.mem_append.mp hb with h | h
    · exact .inl h
    · have : b = a := by simpa using h
      subst this; exact .inr hn
  keep := fun b hb _ => upd_ne (fun z => hb (by rw [z]; exact hn))
  frz := fun b o v e => by rw [upd_ne (ne_of_none e hn)]; exact e
/-- a tuple, or another thing that is not ours, is laid -/
theorem Rel.other (R : Rel K w ρ h H) {u : HO} (hn : H a = none) : Rel K w ρ h (upd H a u) := by
  have k : ∀ b ys, H b = some (.tup ys) → upd H a u b = some (.tup ys) := fun b ys e => by rw [upd_ne (ne_of_none e hn)]; exact e
  refine ⟨R.len, R.nd, fun i o b e1 e2 => (R.obj i o b e1 e2).mono (List.prefix_refl _) k (upd_ne ?_)⟩
  intro z; subst z
  exact R.there (List.mem_of_getElem? e2) hn
theorem Ext.other {u : HO} (hn : H a = none) : Ext ρ H ρ (upd H a u) where
  pre := List.prefix_refl _
  new := fun b hb => .inl hb
  keep := fun b hb _ => upd_ne (fun z => hb (by rw [z]; exact hn))
  frz := fun b o v e => by rw [upd_ne (ne_of_none e hn)]; exact e
/-- an object of ours is changed -/
theorem Rel.put (R : Rel K w ρ h H) {u : HO} {o : O} {n : Nat} (hn : ρ[n]? = some a) (new : ObjR K w ρ (upd H a u) a o) : Rel K w ρ (h.set n o) (upd H a u) := by
  have ha : a ∈ ρ := List.mem_of_getElem? hn
  have k : ∀ b ys, H b = some (.tup ys) → upd H a u b = some (.tup ys) := fun b ys e => by
    rw [upd_ne]; exact e
    intro z; subst z; exact R.tup_out e ha
  refine ⟨by simp [R.len], R.nd, fun i o' b e1 e2 => ?_⟩
  by_cases hi : i = n
  · subst hi
    rw [hn] at e2; cases e2
    have hl : i < h.length := by rw [← R.len]; exact (List.getElem?_eq_some_iff.mp hn).1
    rw [List.getElem?_set_self hl] at e1; cases e1
    exact new
  · rw [List.getElem?_set_ne (fun z => hi z.symm)] at e1
    refine (R.obj i o' b e1 e2).mono (List.prefix_refl _) k (upd_ne ?_)
    intro z; subst z
    obtain ⟨h1, e1'⟩ := List.getElem?_eq_some_iff.mp e2
    obtain ⟨h2, e2'⟩ := List.getElem?_eq_some_iff.mp hn
    exact hi ((List.getElem_inj R.nd).mp (e1'.trans e2'.symm))
theorem Ext.put {u : HO} (ha : a ∈ ρ) (nf : ∀ o v, H a ≠ some (.frz o v)) : Ext ρ H ρ (upd H a u) where
  pre := List.prefix_refl _
  new := fun b hb => .inl hb
  keep := fun b _ hb => upd_ne (fun z => hb (by rw [z]; exact ha))
  frz := fun b o v e => by rw [upd_ne (fun z => nf o v (by rw [← z]; exact e))]; exact e
end

/-! ### slots -/
structure SRel (K : PySem.W.Frag) (ρ : List Addr) (H : Hp) (s : Sl) (σ : St) : Prop where
  len : s.length = σ.length
  get : ∀ (i : Nat) (t : T), s[i]? = some (some t) → ∃ v, σ[i]? = some (some v) ∧ RT K ρ H t v
section
variable {K : PySem.W.Frag} {w : World} {ρ ρ' : List Addr} {H H' : Hp} {h : Hh} {s : Sl} {σ : St}
theorem Rel.sl (R : Rel K w ρ h H) (x : Ext ρ H ρ' H') (r : SRel K ρ H s σ) : SRel K ρ' H' s σ :=
  ⟨r.len, fun i t e => let ⟨v, e1, e2⟩ := r.get i t e; ⟨v, e1, R.rt x e2⟩⟩
theorem SRel.set (r : SRel K ρ H s σ) {t : T} {v : V} (i : Nat) (e : RT K ρ H t v) : SRel K ρ H (s.set i (some t)) (σ.set i (some v)) := by
  refine ⟨by simp [r.len], fun j u hj => ?_⟩
  by_cases hij : j = i
  · subst hij
    have hl : j < s.length := by
      have := (List.getElem?_eq_some_iff.mp hj).1
      simpa using this
    rw [List.getElem?_set_self hl] at hj; cases hj
    exact ⟨v, List.getElem?_set_self (by rw [← r.len]; exact hl), e⟩
  · rw [List.getElem?_set_ne (fun z => hij z.symm)] at hj
    obtain ⟨v', e1, e2⟩ := r.get j u hj
    exact ⟨v', by rw [List.getElem?_set_ne (fun z => hij z.symm)]; exact e1, e2⟩
/-- slots forgotten -/
def wipeT (s : Sl) : List Nat → Sl
  | [] => s
  | v :: vs => (wipeT s vs).set v none
theorem SRel.wipe (r : SRel K ρ H s σ) : ∀ vs : List Nat, SRel K ρ H (wipeT s vs) (wipe σ vs)
  | [] => r
  | v :: vs => by
    have ih := r.wipe vs
    refine ⟨by simp [wipeT, L2.wipe, ih.len], fun j u hj => ?_⟩
    unfold wipeT at hj
    by_cases hij : j = v
    · subst hij
      by_cases hl : j < (wipeT s vs).length
      · rw [List.getElem?_set_self hl] at hj; cases hj
      · rw [List.getElem?_eq_none (by simpa using hl)] at hj; cases hj
    · rw [List.getElem?_set_ne (fun z => hij z.symm)] at hj
      obtain ⟨v', e1, e2⟩ := ih.get j u hj
      exact ⟨v', by unfold L2.wipe; rw [List.getElem?_set_ne (fun z => hij z.symm)]; exact e1, e2⟩
end
end Tr

/-! Judgements over trees and their rules: expressions, tests, arguments, statements. -/
namespace Tr
open PySem PySem.Spec L2

abbrev VKT := T → Hh → Prop
abbrev WE := Sl → Hh → VKT → Prop
abbrev WT := Sl → Hh → (Bool → Hh → Prop) → Prop
abbrev WA := Sl → Hh → (List T → Hh → Prop) → Prop
structure EndsT where
  nx : Sl → Hh → Prop
  rt : VKT
  bk : Sl → Hh → Prop := fun _ _ => False
  ct : Sl → Hh → Prop := fun _ _ => False
abbrev WS := EndsT → Sl → Hh → Prop
abbrev WG := T → Sl → Hh → (Sl → Hh → Prop) → Prop
abbrev WGs := List T → Sl → Hh → (Sl → Hh → Prop) → Prop

def Fin (K : PySem.W.Frag) (w : World) (ρ : List Addr) (H : Hp) (Q' : VKT) (Q : VK) : Prop :=
  ∀ ρ2 H2 v t h2, Ext ρ H ρ2 H2 → Rel K w ρ2 h2 H2 → RT K ρ2 H2 t v → Q' t h2 → Q v H2
def liftE (K : PySem.W.Frag) (w : World) (f : WE) : TE := fun σ H Q => ∃ ρ s h Q', Rel K w ρ h H ∧ SRel K ρ H s σ ∧ f s h Q' ∧ Fin K w ρ H Q' Q
def liftT (K : PySem.W.Frag) (w : World) (f : WT) : TT := fun σ H Q => ∃ ρ s h Q', Rel K w ρ h H ∧ SRel K ρ H s σ ∧ f s h Q' ∧ ∀ ρ2 H2 b h2, Ext ρ H ρ2 H2 → Rel K w ρ2 h2 H2 → Q' b h2 → Q b H2
def liftA (K : PySem.W.Frag) (w : World) (f : WA) : TA := fun σ H Q => ∃ ρ s h Q', Rel K w ρ h H ∧ SRel K ρ H s σ ∧ f s h Q' ∧ ∀ ρ2 H2 vs ts h2, Ext ρ H ρ2 H2 → Rel K w ρ2 h2 H2 → RTs K ρ2 H2 ts vs → Q' ts h2 → Q vs H2
structure FinS (K : PySem.W.Frag) (w : World) (ρ : List Addr) (H : Hp) (D' : EndsT) (D : Ends) : Prop where
  nx : ∀ ρ2 H2 s2 σ2 h2, Ext ρ H ρ2 H2 → Rel K w ρ2 h2 H2 → SRel K ρ2 H2 s2 σ2 → D'.nx s2 h2 → D.nx σ2 H2
  rt : Fin K w ρ H D'.rt D.rt
  bk : ∀ ρ2 H2 s2 σ2 h2, Ext ρ H ρ2 H2 → Rel K w ρ2 h2 H2 → SRel K ρ2 H2 s2 σ2 → D'.bk s2 h2 → D.bk σ2 H2
  ct : ∀ ρ2 H2 s2 σ2 h2, Ext ρ H ρ2 H2 → Rel K w ρ2 h2 H2 → SRel K ρ2 H2 s2 σ2 → D'.ct s2 h2 → D.ct σ2 H2
def liftS (K : PySem.W.Frag) (w : World) (f : WS) : TS := fun D σ H => ∃ ρ s h D', Rel K w ρ h H ∧ SRel K ρ H s σ ∧ f D' s h ∧ FinS K w ρ H D' D
def liftG (K : PySem.W.Frag) (w : World) (f : WG) : TG := fun v σ H Q => ∃ ρ s h t Q', Rel K w ρ h H ∧ SRel K ρ H s σ ∧ RT K ρ H t v ∧ f t s h Q' ∧ ∀ ρ2 H2 s2 σ2 h2, Ext ρ H ρ2 H2 → Rel K w ρ2 h2 H2 → SRel K ρ2 H2 s2 σ2 → Q' s2 h2 → Q σ2 H2
def liftGs (K : PySem.W.Frag) (w : World) (f : WGs) : TGs := fun vs σ H Q => ∃ ρ s h ts Q', Rel K w ρ h H ∧ SRel K ρ H s σ ∧ RTs K ρ H ts vs ∧ f ts s h Q' ∧ ∀ ρ2 H2 s2 σ2 h2, Ext ρ H ρ2 H2 → Rel K w ρ2 h2 H2 → SRel K ρ2 H2 s2 σ2 → Q' s2 h2 → Q σ2 H2

structure PX (X : Cx) (e : Expr) (f : WE) : Prop where pe : PE X e (liftE X.K X.w f)
structure PXT (X : Cx) (e : Expr) (f : WT) : Prop where pt : PT X e (liftT X.K X.w f)
structure PXA (X : Cx) (es : List Expr) (f : WA) : Prop where pa : PA X es (liftA X.K X.w f)
structure PXS (X : Cx) (st : Stmt) (f : WS) : Prop where ps : PS X st (liftS X.K X.w f)
structure PXSs (X : Cx) (st : List Stmt) (f : WS) : Prop where ps : PSs X st (liftS X.K X.w f)
structure PXG (X : Cx) (e : Expr) (f : WG) : Prop where pg : PG X e (liftG X.K X.w f)
structure PXGs (X : Cx) (e : List Expr) (f : WGs) : Prop where pg : PGs X e (liftGs X.K X.w f)

section
variable {X : Cx} {e : Expr} {es : List Expr} {st : Stmt} {sts : List Stmt}
theorem _root_.L2.PE.imp {t t' : TE} (h : PE X e t) (i : ∀ σ H Q, t' σ H Q → t σ H Q) : PE X e t' := ⟨fun p s σ H Q I q => h.run p s σ H Q I (i σ H Q q)⟩
theorem _root_.L2.PT.imp {t t' : TT} (h : PT X e t) (i : ∀ σ H Q, t' σ H Q → t σ H Q) : PT X e t' := ⟨fun p s σ H Q I q => h.run p s σ H Q I (i σ H Q q)⟩
theorem _root_.L2.PA.imp {t t' : TA} (h : PA X es t) (i : ∀ σ H Q, t' σ H Q → t σ H Q) : PA X es t' := ⟨fun po p s σ H Q I q => h.run po p s σ H Q I (i σ H Q q)⟩
theorem _root_.L2.PS.imp {t t' : TS} (h : PS X st t) (i : ∀ D σ H, t' D σ H → t D σ H) : PS X st t' := ⟨fun p s σ H D I q => h.run p s σ H D I (i D σ H q)⟩
theorem _root_.L2.PSs.imp {t t' : TS} (h : PSs X sts t) (i : ∀ D σ H, t' D σ H → t D σ H) : PSs X sts t' := ⟨fun p s σ H D I q => h.run p s σ H D I (i D σ H q)⟩
theorem _root_.L2.PG.imp {t t' : TG} (h : PG X e t) (i : ∀ v σ H Q, t' v σ H Q → t v σ H Q) : PG X e t' := ⟨fun p s σ H v u Q I r q => h.run p s σ H v u Q I r (i v σ H Q q)⟩
theorem _root_.L2.PGs.imp {t t' : TGs} (h : PGs X es t) (i : ∀ v σ H Q, t' v σ H Q → t v σ H Q) : PGs X es t' := ⟨fun p s σ H v u Q I r q => h.run p s σ H v u Q I r (i v σ H Q q)⟩
end

/-! ### names, constants -/
def wV (i : Nat) : WE := fun s h Q => ∃ t, s[i]? = some (some t) ∧ Q t h
def wC (t : T) : WE := fun _ h Q => Q t h
section
variable {X : Cx} {a b c : Expr} {fa fb fc : WE} {pos : Pos}
theorem px_var {i : Nat} (h : PE X a (tVar i)) : PX X a (wV i) := ⟨h.imp fun σ H Q ⟨ρ, s, h, Q', R, S, ⟨t, e, q⟩, fin⟩ =>
  let ⟨v, e2, r⟩ := S.get i t e; ⟨v, e2, fin ρ H v t h (.refl _ _) R r q⟩⟩
theorem px_c {v : V} {t : T} (h : PE X a (tC v)) (r : ∀ ρ H, RT X.K ρ H t v) : PX X a (wC t) := ⟨h.imp fun σ H Q ⟨ρ, s, h, Q', R, S, q, fin⟩ =>
  fin ρ H v t h (.refl _ _) R (r ρ H) q⟩
theorem px_int {i : Int} {j : Nat} : PX X (.Constant (.int i) j pos) (wC (.int i)) := px_c pe_int fun _ _ => .int i
theorem px_bl {b : Bool} {j : Nat} : PX X (.Constant (.bool b) j pos) (wC (.bl b)) := px_c pe_bl fun _ _ => .bl b
theorem px_non {j : Nat} : PX X (.Constant .none j pos) (wC .non) := px_c pe_non fun _ _ => .non
theorem px_str {x : Str} {j : Nat} : PX X (.Constant (.str x) j pos) (wC (.str x)) := px_c pe_str fun _ _ => .str x

/-! ### two-place operations -/
abbrev G2 := T → T → Hh → VKT → Prop
def SimR (K : PySem.W.Frag) (w : World) (r : R2) (g : G2) : Prop :=
  ∀ ρ h H x y tx ty Q' Q, Rel K w ρ h H → RT K ρ H tx x → RT K ρ H ty y → g tx ty h Q' → Fin K w ρ H Q' Q → r x y H Q
def OpX (X : Cx) (f : Value → Value → Sem Value) (g : G2) : Prop := ∃ r, OpR X f r ∧ SimR X.K X.w r g
theorem OpX.or {f : Value → Value → Sem Value} {g g' : G2} (h : OpX X f g) (h' : OpX X f g') : OpX X f (fun x y h Q => g x y h Q ∨ g' x y h Q) := by
  obtain ⟨r, o, s⟩ := h
  obtain ⟨r', o', s'⟩ := h'
  refine ⟨_, o.or o', fun ρ h H x y tx ty Q' Q R rx ry q fin => ?_⟩
  rcases q with q | q
  · exact .inl (s ρ h H x y tx ty Q' Q R rx ry q fin)
  · exact .inr (s' ρ h H x y tx ty Q' Q R rx ry q fin)
theorem OpX.imp {f : Value → Value → Sem Value} {g g' : G2} (h : OpX X f g) (i : ∀ x y h Q, g' x y h Q → g x y h Q) : OpX X f g' := by
  obtain ⟨r, o, s⟩ := h
  exact ⟨r, o, fun ρ h H x y tx ty Q' Q R rx ry q fin => s ρ h H x y tx ty Q' Q R rx ry (i _ _ _ _ q) fin⟩
def wBin (g : G2) (fa fb : WE) : WE := fun s h Q => fa s h fun x h1 => fb s h1 fun y h2 => g x y h2 Q
theorem lift_bin {K : PySem.W.Frag} {w : World} {r : R2} {g : G2} (hs : SimR K w r g) {σ : L2.St} {H : Hp} {Q : VK} (q : liftE K w (wBin g fa fb) σ H Q) : tOp r (liftE K w fa) (liftE K w fb) σ H Q := by
  obtain ⟨ρ, s, h, Q', R, S, hw, fin⟩ := q
  refine ⟨ρ, s, h, _, R, S, hw, fun ρ1 H1 x tx h1 e1 R1 r1 q1 => ?_⟩
  refine ⟨ρ1, s, h1, _, R1, R.sl e1 S, q1, fun ρ2 H2 y ty h2 e2 R2 r2 q2 => ?_⟩
  exact hs ρ2 h2 H2 x y tx ty Q' Q R2 (R1.rt e2 r1) r2 q2 fun ρ3 H3 v t h3 e3 R3 r3 q3 => fin ρ3 H3 v t h3 (e1.trans (e2.trans e3)) R3 r3 q3
theorem px_op {op : Operator} {g : G2} (ho : OpX X (binaryOp op) g) (ha : PX X a fa) (hb : PX X b fb) : PX X (.BinOp a op b pos) (wBin g fa fb) := by
  obtain ⟨r, o, s⟩ := ho
  exact ⟨(pe_op o ha.pe hb.pe).imp fun σ H Q q => lift_bin s q⟩
theorem px_cmp {op : CmpOp} {g : G2} (ho : OpX X (compareOp op) g) (ha : PX X a fa) (hb : PX X b fb) (hm : behindInMarks op b = false) : PX X (.Compare a [op] [b] pos) (wBin g fa fb) := by
  obtain ⟨r, o, s⟩ := ho
  exact ⟨(pe_cmpR o ha.pe hb.pe hm).imp fun σ H Q q => lift_bin s q⟩
/-- a test whose value is a bool -/
def wTst (f : WE) : WT := fun s h Q => f s h fun x h1 => ∃ k, x = .bl k ∧ Q k h1
theorem lift_tst {K : PySem.W.Frag} {w : World} {f : WE} {σ : L2.St} {H : Hp} {Q : Bool → Hp → Prop} (q : liftT K w (wTst f) σ H Q) : tTest (liftE K w f) σ H Q := by
  obtain ⟨ρ, s, h, Q', R, S, hw, fin⟩ := q
  refine ⟨ρ, s, h, _, R, S, hw, fun ρ1 H1 x tx h1 e1 R1 r1 q1 => ?_⟩
  obtain ⟨k, rfl, q1⟩ := q1
  cases r1
  exact ⟨k, rfl, fin ρ1 H1 k h1 e1 R1 q1⟩
theorem pxt_cmp {op : CmpOp} {g : G2} (ho : OpX X (compareOp op) g) (ha : PX X a fa) (hb : PX X b fb) (hm : behindInMarks op b = false) : PXT X (.Compare a [op] [b] pos) (wTst (wBin g fa fb)) := by
  obtain ⟨r, o, s⟩ := ho
  refine ⟨(pt_cmpR o ha.pe hb.pe hm).imp fun σ H Q q => ?_⟩
  have := lift_tst q
  obtain ⟨ρ, s', h, Q', R, S, hw, fin⟩ := this
  exact lift_bin s ⟨ρ, s', h, Q', R, S, hw, fin⟩
/-- a op b op' c -/
def wChain (g g' : G2) (fa fb fc : WE) : WE := fun s h Q => fa s h fun x h1 => fb s h1 fun y h2 => g x y h2 fun z h3 => ∃ k, z = .bl k ∧ (if k = true then fc s h3 fun u h4 => g' y u h4 Q else Q (.bl false) h3)
theorem lift_chain {K : PySem.W.Frag} {w : World} {r r' : R2} {g g' : G2} (hs : SimR K w r g) (hs' : SimR K w r' g') {σ : L2.St} {H : Hp} {Q : VK} (q : liftE K w (wChain g g' fa fb fc) σ H Q) :
    tChain r r' (liftE K w fa) (liftE K w fb) (liftE K w fc) σ H Q := by
  obtain ⟨ρ, s, h, Q', R, S, hw, fin⟩ := q
  refine ⟨ρ, s, h, _, R, S, hw, fun ρ1 H1 x tx h1 e1 R1 r1 q1 => ?_⟩
  refine ⟨ρ1, s, h1, _, R1, R.sl e1 S, q1, fun ρ2 H2 y ty h2 e2 R2 r2 q2 => ?_⟩
  refine hs ρ2 h2 H2 x y tx ty _ _ R2 (R1.rt e2 r1) r2 q2 fun ρ3 H3 v t h3 e3 R3 r3 q3 => ?_
  obtain ⟨k, rfl, q3⟩ := q3
  cases r3
  refine ⟨k, rfl, ?_⟩
  cases k with
  | false =>
    rw [if_neg Bool.false_ne_true] at q3 ⊢
    exact fin ρ3 H3 _ _ h3 (e1.trans (e2.trans e3)) R3 (.bl false) q3
  | true =>
    rw [if_pos rfl] at q3 ⊢
    refine ⟨ρ3, s, h3, _, R3, R2.sl e3 (R1.sl e2 (R.sl e1 S)), q3, fun ρ4 H4 u tu h4 e4 R4 r4 q4 => ?_⟩
    exact hs' ρ4 h4 H4 y u ty tu Q' Q R4 (R3.rt e4 (R2.rt e3 r2)) r4 q4 fun ρ5 H5 v t h5 e5 R5 r5 q5 => fin ρ5 H5 v t h5 (e1.trans (e2.trans (e3.trans (e4.trans e5)))) R5 r5 q5
theorem px_chain {op op' : CmpOp} {g g' : G2} (ho : OpX X (compareOp op) g) (ho' : OpX X (compareOp op') g') (ha : PX X a fa) (hb : PX X b fb) (hc : PX X c fc)
    (hm : lastMarks [op, op'] [b, c] = false := by with_unfolding_all rfl) : PX X (.Compare a [op, op'] [b, c] pos) (wChain g g' fa fb fc) := by
  obtain ⟨r, o, s⟩ := ho
  obtain ⟨r', o', s'⟩ := ho'
  exact ⟨(pe_chain o o' ha.pe hb.pe hc.pe hm).imp fun σ H Q q => lift_chain s s' q⟩
theorem pxt_chain {op op' : CmpOp} {g g' : G2} (ho : OpX X (compareOp op) g) (ho' : OpX X (compareOp op') g') (ha : PX X a fa) (hb : PX X b fb) (hc : PX X c fc)
    (hm : lastMarks [op, op'] [b, c] = false := by with_unfolding_all rfl) : PXT X (.Compare a [op, op'] [b, c] pos) (wTst (wChain g g' fa fb fc)) := by
  obtain ⟨r, o, s⟩ := ho
  obtain ⟨r', o', s'⟩ := ho'
  refine ⟨(pt_chain o o' ha.pe hb.pe hc.pe hm).imp fun σ H Q q => ?_⟩
  obtain ⟨ρ, s2, h, Q', R, S, hw, fin⟩ := lift_tst q
  exact lift_chain s s' ⟨ρ, s2, h, Q', R, S, hw, fin⟩

/-! ### one place -/
def UnX (X : Cx) (f : Value → Sem Value) (g : T → Hh → VKT → Prop) : Prop := ∃ r : V → Hp → VK → Prop, UnR X f r ∧ ∀ ρ h H x tx Q' Q, Rel X.K X.w ρ h H → RT X.K ρ H tx x → g tx h Q' → Fin X.K X.w ρ H Q' Q → r x H Q
def wUn (g : T → Hh → VKT → Prop) (fa : WE) : WE := fun s h Q => fa s h fun x h1 => g x h1 Q
theorem px_un {op : UnaryOp} {g : T → Hh → VKT → Prop} (ho : UnX X (unaryOp op) g) (ha : PX X a fa) : PX X (.UnaryOp op a pos) (wUn g fa) := by
  obtain ⟨r, o, s⟩ := ho
  refine ⟨(pe_un o ha.pe).imp fun σ H Q ⟨ρ, s', h, Q', R, S, hw, fin⟩ => ⟨ρ, s', h, _, R, S, hw, fun ρ1 H1 x tx h1 e1 R1 r1 q1 => ?_⟩⟩
  exact s ρ1 h1 H1 x tx Q' Q R1 r1 q1 fun ρ3 H3 v t h3 e3 R3 r3 q3 => fin ρ3 H3 v t h3 (e1.trans e3) R3 r3 q3

/-! ### tests -/
def truO : Option O → Option Bool
  | some (.lst xs) => some (!xs.isEmpty)
  | some (.rol xs) => some (!xs.isEmpty)
  | _ => none
/-- a value's truth -/
def truT (x : T) (h : Hh) : Option Bool := match x with
  | .non => some false
  | .bl b => some b
  | .int i => some (i != 0)
  | .tup l => some (!l.isEmpty)
  | .str _ => none
  | .kls _ => none
  | .ref n => truO h[n]?
def wTru (f : WE) : WT := fun s h Q => f s h fun x h1 => ∃ k, truT x h1 = some k ∧ Q k h1
theorem RTs.isEmpty {K : PySem.W.Frag} {ρ : List Addr} {H : Hp} {l : List T} {vs : List V} (r : RTs K ρ H l vs) : vs.isEmpty = l.isEmpty := by
  cases l with
  | nil => cases r; rfl
  | cons t l => cases r; rfl
theorem tru_lift {K : PySem.W.Frag} {w : World} {ρ : List Addr} {h : Hh} {H : Hp} (R : Rel K w ρ h H) {x : T} {v : V} (r : RT K ρ H x v) {k : Bool} (e : truT x h = some k) : TruV K v H k := by
  cases x with
  | non => cases r; cases e; rfl
  | bl b => cases r; cases e; rfl
  | int i => cases r; cases e; rfl
  | str s => cases e
  | kls _ => cases e
  | tup l =>
    cases r with
    | tup ht hr =>
      cases e
      exact .inr (.inl ⟨_, ht.sq, by rw [hr.isEmpty]⟩)
  | ref n =>
    cases r with
    | @ref _ a hn =>
      change truO h[n]? = some k at e
      cases ho : h[n]? with
      | none => rw [ho] at e; cases e
      | some o =>
        have oR := R.obj n o a ho hn
        rw [ho] at e
        cases o with
        | lst xs =>
          cases e
          obtain ⟨ys, h1, h2⟩ := oR
          exact .inl ⟨ys, .inl (.inl h1), by rw [h2.isEmpty]⟩
        | rol xs =>
          cases e
          obtain ⟨ob, ys, h1, h2⟩ := oR
          exact .inl ⟨ys, .inl (.inr ⟨ob, h1⟩), by rw [h2.isEmpty]⟩
        | dict _ => cases e
        | frd _ => cases e
theorem pxt_tru (ha : PX X a fa) (he : ∀ whole, isTrue a X.env whole = (do let v ← whole; standAt a.pos; holding [v] (truthy v))) : PXT X a (wTru fa) := by
  refine ⟨(pt_truth ha.pe he).imp fun σ H Q ⟨ρ, s', h, Q', R, S, hw, fin⟩ => ⟨ρ, s', h, _, R, S, hw, fun ρ1 H1 x tx h1 e1 R1 r1 q1 => ?_⟩⟩
  obtain ⟨k, e, q⟩ := q1
  exact ⟨k, tru_lift R1 r1 e, fin ρ1 H1 k h1 e1 R1 q⟩
variable {ta tb : WT} {rest : List Expr}
def wAnd (t u : WT) : WT := fun s h Q => t s h fun c h1 => if c = true then u s h1 Q else Q false h1
def wOr (t u : WT) : WT := fun s h Q => t s h fun c h1 => if c = true then Q true h1 else u s h1 Q
def wNot (t : WT) : WT := fun s h Q => t s h fun c h1 => Q (!c) h1
structure PXW (X : Cx) (e : Expr) (f : WT) : Prop where pw : PW X e (liftT X.K X.w f)
theorem PXW.pxt (h : PXW X a ta) : PXT X a ta := ⟨h.pw.pt⟩
theorem _root_.L2.PW.imp {t t' : TT} (h : PW X a t) (i : ∀ σ H Q, t' σ H Q → t σ H Q) : PW X a t' := ⟨fun wh p s σ H Q I q => h.run wh p s σ H Q I (i σ H Q q)⟩
theorem pxw_and1 (ha : PXT X a ta) : PXW X (.BoolOp .And [a] pos) ta := ⟨pw_and1 ha.pt⟩
theorem pxw_or1 (ha : PXT X a ta) : PXW X (.BoolOp .Or [a] pos) ta := ⟨pw_or1 ha.pt⟩
theorem pxw_and (ha : PXT X a ta) (hb : PXW X (.BoolOp .And (b :: rest) pos) tb) : PXW X (.BoolOp .And (a :: b :: rest) pos) (wAnd ta tb) := by
  refine ⟨(pw_and ha.pt hb.pw).imp fun σ H Q ⟨ρ, s, h, Q', R, S, hw, fin⟩ => ⟨ρ, s, h, _, R, S, hw, fun ρ1 H1 k h1 e1 R1 q1 => ?_⟩⟩
  cases k with
  | false => rw [if_neg Bool.false_ne_true] at q1 ⊢; exact fin ρ1 H1 _ h1 e1 R1 q1
  | true => rw [if_pos rfl] at q1 ⊢; exact ⟨ρ1, s, h1, _, R1, R.sl e1 S, q1, fun ρ2 H2 k h2 e2 R2 q2 => fin ρ2 H2 k h2 (e1.trans e2) R2 q2⟩
theorem pxw_or (ha : PXT X a ta) (hb : PXW X (.BoolOp .Or (b :: rest) pos) tb) : PXW X (.BoolOp .Or (a :: b :: rest) pos) (wOr ta tb) := by
  refine ⟨(pw_or ha.pt hb.pw).imp fun σ H Q ⟨ρ, s, h, Q', R, S, hw, fin⟩ => ⟨ρ, s, h, _, R, S, hw, fun ρ1 H1 k h1 e1 R1 q1 => ?_⟩⟩
  cases k with
  | true => rw [if_pos rfl] at q1 ⊢; exact fin ρ1 H1 _ h1 e1 R1 q1
  | false => rw [if_neg Bool.false_ne_true] at q1 ⊢; exact ⟨ρ1, s, h1, _, R1, R.sl e1 S, q1, fun ρ2 H2 k h2 e2 R2 q2 => fin ρ2 H2 k h2 (e1.trans e2) R2 q2⟩
theorem pxt_not (ha : PXT X a ta) : PXT X (.UnaryOp .Not a pos) (wNot ta) := ⟨(pt_not ha.pt).imp fun σ H Q ⟨ρ, s, h, Q', R, S, hw, fin⟩ => ⟨ρ, s, h, _, R, S, hw, fun ρ1 H1 k h1 e1 R1 q1 => fin ρ1 H1 (!k) h1 e1 R1 q1⟩⟩
/-- bools as values -/
def wAndV (fa fb : WE) : WE := fun s h Q => fa s h fun x h1 => ∃ c, x = .bl c ∧ if c = true then fb s h1 Q else Q (.bl false) h1
def wOrV (fa fb : WE) : WE := fun s h Q => fa s h fun x h1 => ∃ c, x = .bl c ∧ if c = true then Q (.bl true) h1 else fb s h1 Q
def wNotV (fa : WE) : WE := fun s h Q => fa s h fun x h1 => ∃ c, x = .bl c ∧ Q (.bl (!c)) h1
theorem px_one {op} (h : PX X a fa) : PX X (.BoolOp op [a] pos) fa := ⟨pe_one h.pe⟩
theorem px_and (ha : PX X a fa) (hb : PX X (.BoolOp .And (b :: rest) pos) fb) : PX X (.BoolOp .And (a :: b :: rest) pos) (wAndV fa fb) := by
  refine ⟨(pe_and ha.pe hb.pe).imp fun σ H Q ⟨ρ, s, h, Q', R, S, hw, fin⟩ => ⟨ρ, s, h, _, R, S, hw, fun ρ1 H1 x tx h1 e1 R1 r1 q1 => ?_⟩⟩
  obtain ⟨c, rfl, q1⟩ := q1
  cases r1
  refine ⟨c, rfl, ?_⟩
  cases c with
  | false => rw [if_neg Bool.false_ne_true] at q1 ⊢; exact fin ρ1 H1 _ _ h1 e1 R1 (.bl false) q1
  | true => rw [if_pos rfl] at q1 ⊢; exact ⟨ρ1, s, h1, _, R1, R.sl e1 S, q1, fun ρ2 H2 v t h2 e2 R2 r2 q2 => fin ρ2 H2 v t h2 (e1.trans e2) R2 r2 q2⟩
theorem px_or (ha : PX X a fa) (hb : PX X (.BoolOp .Or (b :: rest) pos) fb) : PX X (.BoolOp .Or (a :: b :: rest) pos) (wOrV fa fb) := by
  refine ⟨(pe_or ha.pe hb.pe).imp fun σ H Q ⟨ρ, s, h, Q', R, S, hw, fin⟩ => ⟨ρ, s, h, _, R, S, hw, fun ρ1 H1 x tx h1 e1 R1 r1 q1 => ?_⟩⟩
  obtain ⟨c, rfl, q1⟩ := q1
  cases r1
  refine ⟨c, rfl, ?_⟩
  cases c with
  | true => rw [if_pos rfl] at q1 ⊢; exact fin ρ1 H1 _ _ h1 e1 R1 (.bl true) q1
  | false => rw [if_neg Bool.false_ne_true] at q1 ⊢; exact ⟨ρ1, s, h1, _, R1, R.sl e1 S, q1, fun ρ2 H2 v t h2 e2 R2 r2 q2 => fin ρ2 H2 v t h2 (e1.trans e2) R2 r2 q2⟩
theorem px_not (ha : PX X a fa) : PX X (.UnaryOp .Not a pos) (wNotV fa) := by
  refine ⟨(pe_not ha.pe).imp fun σ H Q ⟨ρ, s, h, Q', R, S, hw, fin⟩ => ⟨ρ, s, h, _, R, S, hw, fun ρ1 H1 x tx h1 e1 R1 r1 q1 => ?_⟩⟩
  obtain ⟨c, rfl, q1⟩ := q1
  cases r1
  exact ⟨c, rfl, fin ρ1 H1 _ _ h1 e1 R1 (.bl (!c)) q1⟩
def wIf (t : WT) (fa fb : WE) : WE := fun s h Q => t s h fun c h1 => if c = true then fa s h1 Q else fb s h1 Q
theorem px_if (hc : PXT X c ta) (ha : PX X a fa) (hb : PX X b fb) : PX X (.IfExp c a b pos) (wIf ta fa fb) := by
  refine ⟨(pe_ifExp hc.pt ha.pe hb.pe).imp fun σ H Q ⟨ρ, s, h, Q', R, S, hw, fin⟩ => ⟨ρ, s, h, _, R, S, hw, fun ρ1 H1 k h1 e1 R1 q1 => ?_⟩⟩
  cases k with
  | true => rw [if_pos rfl] at q1 ⊢; exact ⟨ρ1, s, h1, _, R1, R.sl e1 S, q1, fun ρ2 H2 v t h2 e2 R2 r2 q2 => fin ρ2 H2 v t h2 (e1.trans e2) R2 r2 q2⟩
  | false => rw [if_neg Bool.false_ne_true] at q1 ⊢; exact ⟨ρ1, s, h1, _, R1, R.sl e1 S, q1, fun ρ2 H2 v t h2 e2 R2 r2 q2 => fin ρ2 H2 v t h2 (e1.trans e2) R2 r2 q2⟩

/-! ### arguments, displays, calls -/
def wNil : WA := fun _ h Q => Q [] h
def wCons (f : WE) (g : WA) : WA := fun s h Q => f s h fun x h1 => g s h1 fun xs h2 => Q (x :: xs) h2
variable {e : Expr} {es : List Expr} {fe : WE} {fs : WA}
theorem pxa_nil : PXA X [] wNil := ⟨pa_nil.imp fun σ H Q ⟨ρ, s, h, Q', R, S, hw, fin⟩ => fin ρ H [] [] h (.refl _ _) R .nil hw⟩
theorem pxa_cons (ha : PX X e fe) (hr : PXA X es fs) (hs : starEach (e :: es) X.env = (false, eval e X.env) :: starEach es X.env := by rfl) : PXA X (e :: es) (wCons fe fs) :=
  ⟨(pa_cons ha.pe hr.pa hs).imp fun σ H Q ⟨ρ, s, h, Q', R, S, hw, fin⟩ => ⟨ρ, s, h, _, R, S, hw, fun ρ1 H1 x tx h1 e1 R1 r1 q1 =>
    ⟨ρ1, s, h1, _, R1, R.sl e1 S, q1, fun ρ2 H2 vs ts h2 e2 R2 r2 q2 => fin ρ2 H2 (x :: vs) (tx :: ts) h2 (e1.trans e2) R2 (.cons (R1.rt e2 r1) r2) q2⟩⟩⟩
def wTup (f : WA) : WE := fun s h Q => f s h fun xs h1 => xs.length ≤ sizeLine ∧ Q (.tup xs) h1
def wLst (f : WA) : WE := fun s h Q => f s h fun xs h1 => xs.length ≤ sizeLine ∧ Q (.ref h1.length) (h1 ++ [.lst xs])
theorem fin_tup {K : PySem.W.Frag} {w : World} {ρ : List Addr} {h : Hh} {H : Hp} (R : Rel K w ρ h H) {ts : List T} {vs : List V} (r : RTs K ρ H ts vs) {Q' : VKT} {Q : VK} (fin : Fin K w ρ H Q' Q) (q : Q' (.tup ts) h) {p : Addr} (hp : H p = none) : Q (.ref p) (upd H p (.tup vs)) :=
  fin ρ (upd H p (.tup vs)) (.ref p) (.tup ts) h (.other hp) (R.other hp) (.tup (.inl upd_same) (R.rts (.other hp) r)) q
theorem get_end {ρ : List Addr} {h : Hh} {p : Addr} (e : ρ.length = h.length) : (ρ ++ [p])[h.length]? = some p := by rw [← e]; simp
theorem fin_lst {K : PySem.W.Frag} {w : World} {ρ : List Addr} {h : Hh} {H : Hp} (R : Rel K w ρ h H) {ts : List T} {vs : List V} (r : RTs K ρ H ts vs) {Q' : VKT} {Q : VK} (fin : Fin K w ρ H Q' Q) (q : Q' (.ref h.length) (h ++ [.lst ts])) {p : Addr} (hp : H p = none) : Q (.ref p) (upd H p (.lst vs)) :=
  fin (ρ ++ [p]) (upd H p (.lst vs)) (.ref p) (.ref h.length) (h ++ [.lst ts]) (.push hp) (R.push (o := .lst ts) hp ⟨vs, upd_same, R.rts (.push hp) r⟩) (.ref (get_end R.len)) q
theorem px_tup {x1} (h : PXA X es fs) : PX X (.Tuple es x1 pos) (wTup fs) := by
  refine ⟨(pe_tup h.pa).imp fun σ H Q ⟨ρ, s, h, Q', R, S, hw, fin⟩ => ⟨ρ, s, h, _, R, S, hw, fun ρ1 H1 vs ts h1 e1 R1 r1 q1 => ⟨by rw [← r1.length]; exact q1.1, fun p hp => ?_⟩⟩⟩
  exact fin_tup R1 r1 (fun ρ2 H2 v t h2 e2 R2 r2 q2 => fin ρ2 H2 v t h2 (e1.trans e2) R2 r2 q2) q1.2 hp
theorem px_lst (h : PXA X es fs) : PX X (.List es pos) (wLst fs) := by
  refine ⟨(pe_lst h.pa).imp fun σ H Q ⟨ρ, s, h, Q', R, S, hw, fin⟩ => ⟨ρ, s, h, _, R, S, hw, fun ρ1 H1 vs ts h1 e1 R1 r1 q1 => ⟨by rw [← r1.length]; exact q1.1, fun p hp => ?_⟩⟩⟩
  exact fin_lst R1 r1 (fun ρ2 H2 v t h2 e2 R2 r2 q2 => fin ρ2 H2 v t h2 (e1.trans e2) R2 r2 q2) q1.2 hp

abbrev GC := List T → Hh → VKT → Prop
def SimC (K : PySem.W.Frag) (w : World) (r : List V → Hp → VK → Prop) (g : GC) : Prop :=
  ∀ ρ h H xs ts Q' Q, Rel K w ρ h H → RTs K ρ H ts xs → g ts h Q' → Fin K w ρ H Q' Q → r xs H Q
def CallX (X : Cx) (f : Value) (g : GC) : Prop := ∃ r, CallR X f r ∧ SimC X.K X.w r g
theorem CallX.or {f : Value} {g g' : GC} (h : CallX X f g) (h' : CallX X f g') : CallX X f (fun xs h Q => g xs h Q ∨ g' xs h Q) := by
  obtain ⟨r, o, s⟩ := h
  obtain ⟨r', o', s'⟩ := h'
  refine ⟨_, o.or o', fun ρ h H xs ts Q' Q R rx q fin => ?_⟩
  rcases q with q | q
  · exact .inl (s ρ h H xs ts Q' Q R rx q fin)
  · exact .inr (s' ρ h H xs ts Q' Q R rx q fin)
theorem CallX.imp {f : Value} {g g' : GC} (h : CallX X f g) (i : ∀ xs h Q, g' xs h Q → g xs h Q) : CallX X f g' := by
  obtain ⟨r, o, s⟩ := h
  exact ⟨r, o, fun ρ h H xs ts Q' Q R rx q fin => s ρ h H xs ts Q' Q R rx (i _ _ _ q) fin⟩
def wCall (g : GC) (fs : WA) : WE := fun s h Q => fs s h fun ts h1 => g ts h1 Q
theorem lift_call {K : PySem.W.Frag} {w : World} {r : List V → Hp → VK → Prop} {g : GC} (hs : SimC K w r g) {σ : L2.St} {H : Hp} {Q : VK} (q : liftE K w (wCall g fs) σ H Q) : liftA K w fs σ H fun vs H1 => r vs H1 Q := by
  obtain ⟨ρ, s, h, Q', R, S, hw, fin⟩ := q
  exact ⟨ρ, s, h, _, R, S, hw, fun ρ1 H1 vs ts h1 e1 R1 r1 q1 => hs ρ1 h1 H1 vs ts Q' Q R1 r1 q1 fun ρ2 H2 v t h2 e2 R2 r2 q2 => fin ρ2 H2 v t h2 (e1.trans e2) R2 r2 q2⟩
theorem px_callB {id : String} {g : GC} {x : Str} {p : Pos} (hc : CallX X (.builtin id) g) (hg : Gl X x) (hm : X.mg x = none) (hv : bootBuiltins x = some (.builtin id)) (ha : PXA X (e :: es) fs) (hn : x ≠ "__name__" := by decide) (hdb : (x == ("__debug__" : Str)) = false := by decide)
    (he : starEach (e :: es) X.env = (false, eval e X.env) :: starEach es X.env := by rfl) (hpl : (backTo pos (starEach es X.env)).any (·.1) = false := by rfl) : PX X (.Call (.Name x p) (e :: es) [] pos) (wCall g fs) := by
  obtain ⟨r, o, s⟩ := hc
  exact ⟨(pe_callB o hg hm hv ha.pa hn hdb he hpl).imp fun σ H Q q => lift_call s q⟩
theorem px_callTy {Ty : String} {g : GC} {x : Str} {p : Pos} (hc : CallX X (.type Ty) g) (hg : Gl X x) (hm : X.mg x = none) (hv : bootBuiltins x = some (.type Ty)) (ha : PXA X (e :: es) fs) (hn : x ≠ "__name__" := by decide) (hdb : (x == ("__debug__" : Str)) = false := by decide)
    (he : starEach (e :: es) X.env = (false, eval e X.env) :: starEach es X.env := by rfl) (hpl : (backTo pos (starEach es X.env)).any (·.1) = false := by rfl) : PX X (.Call (.Name x p) (e :: es) [] pos) (wCall g fs) := by
  obtain ⟨r, o, s⟩ := hc
  exact ⟨(pe_callTy o hg hm hv ha.pa hn hdb he hpl).imp fun σ H Q q => lift_call s q⟩

/-! ### the program's own defs -/
/-- a promise over trees -/
def spT (K : PySem.W.Frag) (w : World) (g : GC) : Sp := fun vs H Q _ => ∃ ρ h ts Q', Rel K w ρ h H ∧ RTs K ρ H ts vs ∧ g ts h Q' ∧ Fin K w ρ H Q' Q
theorem px_fn {k : Nat} {f : Addr} {fd : FuncData} {ps : List Str} {x : Str} {p : Pos} {g : GC} (F : FnOk X.prog X.w X.K X.mg X.base CX0 k f fd ps (spT X.K X.w g)) (hr : Room k X.A) (hg : Gl X x) (hm : X.mg x = some (.ref f)) (hk : PySem.W.keepIn X.K (.ref f) = true) (hb : Binds X.K fd ps [])
    (ha : PXA X (e :: es) fs) (hdb : (x == ("__debug__" : Str)) = false := by decide) (he : starEach (e :: es) X.env = (false, eval e X.env) :: starEach es X.env := by rfl) (hpl : (backTo pos (starEach es X.env)).any (·.1) = false := by rfl) :
    PX X (.Call (.Name x p) (e :: es) [] pos) (wCall g fs) := by
  refine ⟨(pe_call (E := fun _ _ _ => False) F hr hg hm hk hb .nil pass0 ha.pa hdb he hpl).imp fun σ H Q ⟨ρ, s, h, Q', R, S, hw, fin⟩ => ?_⟩
  refine ⟨ρ, s, h, _, R, S, hw, fun ρ1 H1 vs ts h1 e1 R1 r1 q1 => ?_⟩
  show spT X.K X.w g (vs ++ []) H1 Q _
  rw [List.append_nil]
  exact ⟨ρ1, h1, ts, Q', R1, r1, q1, fun ρ2 H2 v t h2 e2 R2 r2 q2 => fin ρ2 H2 v t h2 (e1.trans e2) R2 r2 q2⟩
end
end Tr

/-! Statements, targets, loops, comprehensions over trees. -/
namespace Tr
open PySem PySem.Spec L2

theorem FinS.weak {K : PySem.W.Frag} {w : World} {ρ ρ1 : List Addr} {H H1 : Hp} {D' : EndsT} {D : Ends} (e : Ext ρ H ρ1 H1) (f : FinS K w ρ H D' D) : FinS K w ρ1 H1 D' D :=
  ⟨fun ρ2 H2 s2 σ2 h2 e2 => f.nx ρ2 H2 s2 σ2 h2 (e.trans e2), fun ρ2 H2 v t h2 e2 => f.rt ρ2 H2 v t h2 (e.trans e2), fun ρ2 H2 s2 σ2 h2 e2 => f.bk ρ2 H2 s2 σ2 h2 (e.trans e2), fun ρ2 H2 s2 σ2 h2 e2 => f.ct ρ2 H2 s2 σ2 h2 (e.trans e2)⟩
theorem Fin.weak {K : PySem.W.Frag} {w : World} {ρ ρ1 : List Addr} {H H1 : Hp} {Q' : VKT} {Q : VK} (e : Ext ρ H ρ1 H1) (f : Fin K w ρ H Q' Q) : Fin K w ρ1 H1 Q' Q :=
  fun ρ2 H2 v t h2 e2 => f ρ2 H2 v t h2 (e.trans e2)

section
variable {X : Cx} {st : Stmt} {rest : List Stmt} {f g : WS} {e : Expr} {fe : WE} {pos : Pos}
def wNext : WS := fun D s h => D.nx s h
def wSeq (f g : WS) : WS := fun D s h => f { D with nx := g D } s h
theorem pxss_nil : PXSs X [] wNext := ⟨pss_nil.imp fun D σ H ⟨ρ, s, h, D', R, S, hw, fin⟩ => fin.nx ρ H s σ h (.refl _ _) R S hw⟩
theorem pxss_one (h : PXS X st f) : PXSs X [st] f := ⟨pss_one h.ps⟩
theorem pxss_cons (h1 : PXS X st f) (h2 : PXSs X rest g) : PXSs X (st :: rest) (wSeq f g) :=
  ⟨(pss_cons h1.ps h2.ps).imp fun D σ H ⟨ρ, s, h, D', R, S, hw, fin⟩ => ⟨ρ, s, h, _, R, S, hw,
    ⟨fun ρ2 H2 s2 σ2 h2 e2 R2 S2 q2 => ⟨ρ2, s2, h2, D', R2, S2, q2, fin.weak e2⟩, fin.rt, fin.bk, fin.ct⟩⟩⟩
def wBrk : WS := fun D s h => D.bk s h
def wCnt : WS := fun D s h => D.ct s h
theorem pxs_pass : PXS X (.Pass pos) wNext := ⟨ps_pass.imp fun D σ H ⟨ρ, s, h, D', R, S, hw, fin⟩ => fin.nx ρ H s σ h (.refl _ _) R S hw⟩
theorem pxs_break : PXS X (.Break pos) wBrk := ⟨ps_break.imp fun D σ H ⟨ρ, s, h, D', R, S, hw, fin⟩ => fin.bk ρ H s σ h (.refl _ _) R S hw⟩
theorem pxs_continue : PXS X (.Continue pos) wCnt := ⟨ps_continue.imp fun D σ H ⟨ρ, s, h, D', R, S, hw, fin⟩ => fin.ct ρ H s σ h (.refl _ _) R S hw⟩
def wDrop (fe : WE) : WS := fun D s h => fe s h fun _ h1 => D.nx s h1
theorem pxs_expr (he : PX X e fe) (hs : swapsWith e none pos.line X.env = pure false := by rfl) : PXS X (.Expr e pos) (wDrop fe) :=
  ⟨(ps_expr he.pe hs).imp fun D σ H ⟨ρ, s, h, D', R, S, hw, fin⟩ => ⟨ρ, s, h, _, R, S, hw, fun ρ2 H2 v t h2 e2 R2 r2 q2 => fin.nx ρ2 H2 s σ h2 e2 R2 (R.sl e2 S) q2⟩⟩
def wRet (fe : WE) : WS := fun D s h => fe s h D.rt
theorem pxs_ret (he : PX X e fe) : PXS X (.Return (some e) pos) (wRet fe) :=
  ⟨(ps_ret he.pe).imp fun D σ H ⟨ρ, s, h, D', R, S, hw, fin⟩ => ⟨ρ, s, h, _, R, S, hw, fin.rt⟩⟩
def wIfS (c : WT) (f g : WS) : WS := fun D s h => c s h fun b h1 => if b = true then f D s h1 else g D s h1
theorem pxs_if {c : Expr} {a b : List Stmt} {fc : WT} (hc : PXT X c fc) (ha : PXSs X a f) (hb : PXSs X b g) : PXS X (.If c a b pos) (wIfS fc f g) := by
  refine ⟨(ps_if hc.pt ha.ps hb.ps).imp fun D σ H ⟨ρ, s, h, D', R, S, hw, fin⟩ => ⟨ρ, s, h, _, R, S, hw, fun ρ1 H1 k h1 e1 R1 q1 => ?_⟩⟩
  cases k with
  | true => rw [if_pos rfl] at q1 ⊢; exact ⟨ρ1, s, h1, D', R1, R.sl e1 S, q1, fin.weak e1⟩
  | false => rw [if_neg Bool.false_ne_true] at q1 ⊢; exact ⟨ρ1, s, h1, D', R1, R.sl e1 S, q1, fin.weak e1⟩

/-! ### targets -/
def gNm (i : Nat) : WG := fun t s h Q => Q (s.set i (some t)) h
theorem pxg_name {tg : Expr} {i : Nat} (hg : PG X tg (gName i)) : PXG X tg (gNm i) := ⟨hg.imp fun v σ H Q ⟨ρ, s, h, t, Q', R, S, r, hw, fin⟩ => fin ρ H _ _ h (.refl _ _) R (S.set i r) hw⟩
def gsNil : WGs := fun ts s h Q => ts = [] ∧ Q s h
def gsCons (f : WG) (g : WGs) : WGs := fun ts s h Q => ∃ t r, ts = t :: r ∧ f t s h fun s1 h1 => g r s1 h1 Q
theorem pxgs_nil : PXGs X [] gsNil := ⟨pgs_nil.imp fun vs σ H Q ⟨ρ, s, h, ts, Q', R, S, r, ⟨e, hw⟩, fin⟩ => by
  subst e
  cases r
  exact ⟨rfl, fin ρ H _ _ h (.refl _ _) R S hw⟩⟩
theorem pxgs_cons {es : List Expr} {f : WG} {g : WGs} (h1 : PXG X e f) (h2 : PXGs X es g) (hs : (assignEach (e :: es) X.env).map (·.2) = assign e X.env :: (assignEach es X.env).map (·.2) := by rfl) : PXGs X (e :: es) (gsCons f g) := by
  refine ⟨(pgs_cons h1.pg h2.pg hs).imp fun vs σ H Q ⟨ρ, s, h, ts, Q', R, S, r, ⟨t, tr, e, hw⟩, fin⟩ => ?_⟩
  subst e
  cases r with
  | @cons _ v _ vr r rr =>
    refine ⟨v, vr, rfl, ρ, s, h, t, _, R, S, r, hw, fun ρ2 H2 s2 σ2 h2 e2 R2 S2 q2 => ?_⟩
    exact ⟨ρ2, s2, h2, tr, Q', R2, S2, R.rts e2 rr, q2, fun ρ3 H3 s3 σ3 h3 e3 R3 S3 q3 => fin ρ3 H3 s3 σ3 h3 (e2.trans e3) R3 S3 q3⟩
def gTp (n : Nat) (g : WGs) : WG := fun t s h Q => ∃ l, t = .tup l ∧ l.length = n ∧ g l s h Q
theorem pxg_tup {es : List Expr} {k : Nat} {g : WGs} {n : Nat} (hc : X.calm = true) (h : PXGs X es g)
    (hn : (assignEach es X.env).length = n := by rfl) (hst : (assignEach es X.env).findIdx? (·.1) = none := by rfl) : PXG X (.Tuple es k pos) (gTp n g) := by
  refine ⟨(pg_tup hc h.pg hn hst).imp fun v σ H Q ⟨ρ, s, h, t, Q', R, S, r, ⟨l, e, hl, hw⟩, fin⟩ => ?_⟩
  subst e
  cases r with
  | tup ht hr => exact ⟨_, _, rfl, ht.sq, by rw [← hr.length]; exact hl, ρ, s, h, l, Q', R, S, hr, hw, fin⟩
/-- o[i] = v -/
abbrev GS := T → T → T → Hh → (Hh → Prop) → Prop
def SetX (X : Cx) (g : GS) : Prop := ∃ r : TSet, PSet X r ∧ ∀ ρ h H o i v to ti tv (Q' : Hh → Prop) (Q : Hp → Prop), Rel X.K X.w ρ h H → RT X.K ρ H to o → RT X.K ρ H ti i → RT X.K ρ H tv v → g to ti tv h Q' →
  (∀ ρ2 H2 h2, Ext ρ H ρ2 H2 → Rel X.K X.w ρ2 h2 H2 → Q' h2 → Q H2) → r o i v H Q
theorem SetX.or {g g' : GS} (a : SetX X g) (b : SetX X g') : SetX X (fun o i v h Q => g o i v h Q ∨ g' o i v h Q) := by
  obtain ⟨r, p, q⟩ := a
  obtain ⟨r', p', q'⟩ := b
  refine ⟨fun o i v H Q => r o i v H Q ∨ r' o i v H Q, fun pins s σ H o i v ov iv u Q I ro ri rv h => ?_, fun ρ h H o i v to ti tv Q' Q R ro ri rv hw fin => ?_⟩
  · rcases h with h | h
    · exact p pins s σ H o i v ov iv u Q I ro ri rv h
    · exact p' pins s σ H o i v ov iv u Q I ro ri rv h
  · rcases hw with hw | hw
    · exact .inl (q ρ h H o i v to ti tv Q' Q R ro ri rv hw fin)
    · exact .inr (q' ρ h H o i v to ti tv Q' Q R ro ri rv hw fin)
def gSb (fo fi : WE) (g : GS) : WG := fun t s h Q => fo s h fun o h1 => fi s h1 fun i h2 => g o i t h2 fun h3 => Q s h3
theorem pxg_sub {o i : Expr} {fo fi : WE} {g : GS} (ho : PX X o fo) (hi : PX X i fi) (hs : SetX X g)
    (ha : ∀ v, assign (.Subscript o i pos) X.env v = (do
      let ov ← holding [v] (eval o X.env)
      let iv ← holding [v, ov] (eval i X.env)
      standAt pos
      holding [v, ov, iv] (setItem ov iv v)
      release [v, ov, iv] []) := by intro _; rfl) : PXG X (.Subscript o i pos) (gSb fo fi g) := by
  obtain ⟨r, p, q⟩ := hs
  refine ⟨(pg_sub ho.pe hi.pe p ha).imp fun v σ H Q ⟨ρ, s, h, t, Q', R, S, rt, hw, fin⟩ => ?_⟩
  refine ⟨ρ, s, h, _, R, S, hw, fun ρ1 H1 x tx h1 e1 R1 r1 q1 => ⟨ρ1, s, h1, _, R1, R.sl e1 S, q1, fun ρ2 H2 y ty h2 e2 R2 r2 q2 => ?_⟩⟩
  exact q ρ2 h2 H2 x y v tx ty t _ _ R2 (R1.rt e2 r1) r2 (R1.rt e2 (R.rt e1 rt)) q2 fun ρ3 H3 h3 e3 R3 q3 => fin ρ3 H3 s σ h3 (e1.trans (e2.trans e3)) R3 (R2.sl e3 (R1.sl e2 (R.sl e1 S))) q3
def wAsg (fe : WE) (g : WG) : WS := fun D s h => fe s h fun t h1 => g t s h1 D.nx
theorem asg_lift {K : PySem.W.Frag} {w : World} {fe : WE} {g : WG} {D : Ends} {σ : L2.St} {H : Hp} (q : liftS K w (wAsg fe g) D σ H) : tAsg (liftE K w fe) (liftG K w g) D σ H := by
  obtain ⟨ρ, s, h, D', R, S, hw, fin⟩ := q
  exact ⟨ρ, s, h, _, R, S, hw, fun ρ1 H1 x tx h1 e1 R1 r1 q1 => ⟨ρ1, s, h1, tx, _, R1, R.sl e1 S, r1, q1, fun ρ2 H2 s2 σ2 h2 e2 R2 S2 q2 => fin.nx ρ2 H2 s2 σ2 h2 (e1.trans e2) R2 S2 q2⟩⟩
theorem pxs_asg {tg : Expr} {g : WG} (he : PX X e fe) (hg : PXG X tg g) (hs : swapsWithSole [tg] e pos.line X.env = pure false := by rfl) (hw : swappedStores [tg] e X.env = pure none := by rfl)
    (h1 : (assignEach [tg] X.env).map (·.2) = [assign tg X.env] := by rfl) : PXS X (.Assign [tg] e pos) (wAsg fe g) := ⟨(ps_asg he.pe hg.pg hs hw h1).imp fun D σ H q => asg_lift q⟩
theorem set_lift {K : PySem.W.Frag} {w : World} {fe : WE} {i : Nat} {D : Ends} {σ : L2.St} {H : Hp} (q : liftS K w (wAsg fe (gNm i)) D σ H) : tAsg (liftE K w fe) (gName i) D σ H := by
  obtain ⟨ρ, s, h, D', R, S, hw, fin⟩ := q
  exact ⟨ρ, s, h, _, R, S, hw, fun ρ1 H1 x tx h1 e1 R1 r1 q1 => fin.nx ρ1 H1 _ _ h1 e1 R1 ((R.sl e1 S).set i r1) q1⟩
theorem pxs_set {i : Nat} {x : Str} {pos' : Pos} (hN : X.N.Nodup) (hi : X.N[i]? = some x) (hx : Loc X.env.scope x) (he : PX X e fe) (hs : swapsWith e (some (.Name x pos')) pos.line X.env = pure false := by rfl) (hf : X.fn x = true ∨ X.env.scope.names.lookup x = some .local := by first | exact .inl rfl | exact .inr rfl | assumption) :
    PXS X (.Assign [.Name x pos'] e pos) (wAsg fe (gNm i)) := ⟨(ps_set hN hi hx he.pe hs hf).imp fun D σ H q => set_lift q⟩

/-! ### while -/
def wWhile (c : WT) (fb : WS) : WS := fun D s h => ∃ (J : Nat → Sl → Hh → Prop) (m : Nat), J m s h ∧ ∀ m s h, J m s h → c s h fun b h1 =>
  if b = true then fb { D with nx := fun s2 h2 => ∃ m', m' < m ∧ J m' s2 h2, ct := fun s2 h2 => ∃ m', m' < m ∧ J m' s2 h2, bk := D.nx } s h1 else D.nx s h1
theorem pxs_while {c : Expr} {body : List Stmt} {fc : WT} {fb : WS} (hp : PassesOwn (model X.prog X.w) X.A X.env X.xe) (hc : PXT X c fc) (hb : PXSs X body fb) : PXS X (.While c body [] pos) (wWhile fc fb) := by
  refine ⟨(ps_while hp hc.pt hb.ps).imp fun D σ H ⟨ρ, s, h, D', R, S, ⟨J, m0, j0, turn⟩, fin⟩ => ?_⟩
  refine ⟨fun m σ1 H1 => ∃ ρ1 s1 h1, Ext ρ H ρ1 H1 ∧ Rel X.K X.w ρ1 h1 H1 ∧ SRel X.K ρ1 H1 s1 σ1 ∧ J m s1 h1, ⟨m0, ρ, s, h, .refl _ _, R, S, j0⟩, ?_⟩
  rintro m σ1 H1 ⟨ρ1, s1, h1, e1, R1, S1, j1⟩
  refine ⟨ρ1, s1, h1, _, R1, S1, turn m s1 h1 j1, fun ρ2 H2 k h2 e2 R2 q2 => ?_⟩
  cases k with
  | false => rw [if_neg Bool.false_ne_true] at q2 ⊢; exact fin.nx ρ2 H2 s1 σ1 h2 (e1.trans e2) R2 (R1.sl e2 S1) q2
  | true =>
    rw [if_pos rfl] at q2 ⊢
    refine ⟨fun σ3 H3 => ∃ m', m' < m ∧ ∃ ρ3 s3 h3, Ext ρ H ρ3 H3 ∧ Rel X.K X.w ρ3 h3 H3 ∧ SRel X.K ρ3 H3 s3 σ3 ∧ J m' s3 h3, fun σ' H' q => q, ρ2, s1, h2, _, R2, R1.sl e2 S1, q2, ?_⟩
    have again : ∀ ρ3 H3 s3 σ3 h3, Ext ρ2 H2 ρ3 H3 → Rel X.K X.w ρ3 h3 H3 → SRel X.K ρ3 H3 s3 σ3 → (∃ m', m' < m ∧ J m' s3 h3) → ∃ m', m' < m ∧ ∃ ρ3 s3 h3, Ext ρ H ρ3 H3 ∧ Rel X.K X.w ρ3 h3 H3 ∧ SRel X.K ρ3 H3 s3 σ3 ∧ J m' s3 h3 :=
      fun ρ3 H3 s3 σ3 h3 e3 R3 S3 ⟨m', hm, j3⟩ => ⟨m', hm, ρ3, s3, h3, e1.trans (e2.trans e3), R3, S3, j3⟩
    exact ⟨again, fun ρ3 H3 v t h3 e3 => fin.rt ρ3 H3 v t h3 (e1.trans (e2.trans e3)), fun ρ3 H3 s3 σ3 h3 e3 => fin.nx ρ3 H3 s3 σ3 h3 (e1.trans (e2.trans e3)), again⟩

/-! ### for -/
def seqO : Option O → Option (List T)
  | some (.lst xs) => some xs
  | some (.rol xs) => some xs
  | _ => none
/-- a list's or a tuple's items -/
def seqT (h : Hh) : T → Option (List T)
  | .tup l => some l
  | .ref n => seqO h[n]?
  | .kls ns => some (ns.map T.int)
  | _ => none
theorem seq_ref {K : PySem.W.Frag} {w : World} {ρ : List Addr} {h : Hh} {H : Hp} (R : Rel K w ρ h H) {n : Nat} {a : Addr} (hn : ρ[n]? = some a) {xs : List T} (e : seqT h (.ref n) = some xs) : ∃ ys, SqL K H a ys ∧ RTs K ρ H xs ys := by
  change seqO h[n]? = some xs at e
  cases ho : h[n]? with
  | none => rw [ho] at e; cases e
  | some o =>
    have oR := R.obj n o a ho hn
    rw [ho] at e
    cases o with
    | lst zs =>
      cases e
      obtain ⟨ys, h1, h2⟩ := oR
      exact ⟨ys, .inl (.inl h1), h2⟩
    | rol zs =>
      cases e
      obtain ⟨ob, ys, h1, h2⟩ := oR
      exact ⟨ys, .inl (.inr ⟨ob, h1⟩), h2⟩
    | dict _ => cases e
    | frd _ => cases e
def wFor (fe : WE) (g : WG) (fb : WS) : WS := fun D s h => fe s h fun x h1 => ∃ xs, seqT h1 x = some xs ∧ ∃ J : Nat → Sl → Hh → Prop, J 0 s h1 ∧ (∀ i s h, i ≤ xs.length → J i s h → seqT h x = some xs) ∧
  (∀ i y s h, xs[i]? = some y → J i s h → g y s h fun s2 h2 => fb { D with nx := J (i + 1), ct := J (i + 1), bk := D.nx } s2 h2) ∧ ∀ s h, J xs.length s h → D.nx s h
/-- of a value that is walked: a list, or a tuple -/
def iSeq (K : PySem.W.Frag) (tl : TE) : TI := fun σ H R => tl σ H fun x H1 => ∃ a, x = .ref a ∧ (((∃ xs, SqL K H1 a xs) ∧ R (Itl K a) H1) ∨ ((∃ xs, SqT K H1 a xs) ∧ R (Itt K a) H1))
theorem pi_seq {tg l : Expr} {tl : TE} (hl : PE X l tl) : PI X tg l (iSeq X.K tl) := by
  refine ⟨fun pins s σ H R I h => ?_⟩
  refine thn (hl.run pins s σ H _ I h) fun v s1 ⟨x, H1, I1, r1, q1⟩ => ?_
  obtain ⟨a, e, q1⟩ := q1
  subst e
  cases r1
  rcases q1 with ⟨⟨xs, hq⟩, q⟩ | ⟨⟨xs, hq⟩, q⟩
  · obtain ⟨its, rv, p, hz⟩ := I1.list hq
    refine wpAny_pyIter_list p.isList ?_
    refine ⟨s1.heap.objs.size, [s1.heap.objs.size], _, _, H1, rfl, I1.kept (t' := s1.toks) fun b o e => Heap.get?_push_of_some _ e, turn_list a _, ⟨_, Heap.get?_push_size _ rfl, rfl, rfl⟩, fun b hb => ?_, q⟩
    have e : b = s1.heap.objs.size := by simpa using hb
    subst e
    exact I1.fpOk (Nat.le_refl _) (I1.hok.fresh (Nat.le_refl _))
  · obtain ⟨its, rv, p, hz⟩ := I1.tuple hq
    refine wpAny_pyIter_tuple (show s1.heap.IsTuple a its.toArray from p) ?_
    refine ⟨s1.heap.objs.size, [s1.heap.objs.size], _, _, H1, rfl, I1.kept (t' := s1.toks) fun b o e => Heap.get?_push_of_some _ e, turn_tuple a _, ⟨_, Heap.get?_push_size _ rfl, rfl, rfl⟩, fun b hb => ?_, q⟩
    have e : b = s1.heap.objs.size := by simpa using hb
    subst e
    exact I1.fpOk (Nat.le_refl _) (I1.hok.fresh (Nat.le_refl _))
/-- the loop's word, from one over trees; ok: what the iterator asks of the heap at a turn -/
theorem for_core {K : PySem.W.Frag} {w : World} {ρ : List Addr} {H : Hp} {s : Sl} {σ : L2.St} {h : Hh} {D' : EndsT} {D : Ends} {g : WG} {fb : WS} {J : Nat → Sl → Hh → Prop} {n : Nat} {item : Nat → T} {W : It} (R : Rel K w ρ h H) (S : SRel K ρ H s σ) (fin : FinS K w ρ H D' D) (j0 : J 0 s h)
    (turn : ∀ i s h, i < n → J i s h → g (item i) s h fun s2 h2 => fb { D' with nx := J (i + 1), ct := J (i + 1), bk := D'.nx } s2 h2) (done : ∀ s h, J n s h → D'.nx s h)
    (hstop : ∀ ρ1 H1 s1 h1, Ext ρ H ρ1 H1 → Rel K w ρ1 h1 H1 → J n s1 h1 → W.stop n H1)
    (hgo : ∀ i ρ1 H1 s1 h1, i < n → Ext ρ H ρ1 H1 → Rel K w ρ1 h1 H1 → J i s1 h1 → W.go i H1 ∧ ∀ x H2, W.yld i H1 x H2 → H2 = H1 ∧ RT K ρ1 H1 (item i) x) :
    ∃ Wd : Nat → Nat → L2.St → Hp → Prop, (∃ m, Wd 0 m σ H) ∧ ∀ i m σ H, Wd i m σ H →
      (W.stop i H ∧ D.nx σ H) ∨ (W.go i H ∧ ∃ N : L2.St → Hp → Prop, (∀ σ' H', N σ' H' → ∃ m', m' < m ∧ Wd (i + 1) m' σ' H') ∧ ∀ x H', W.yld i H x H' → liftG K w g x σ H' fun σ2 H2 => liftS K w fb { D with nx := N, ct := N, bk := D.nx } σ2 H2) := by
  refine ⟨fun i m σ1 H1 => m = n - i ∧ i ≤ n ∧ ∃ ρ1 s1 h1, Ext ρ H ρ1 H1 ∧ Rel K w ρ1 h1 H1 ∧ SRel K ρ1 H1 s1 σ1 ∧ J i s1 h1, ⟨n, by simp, Nat.zero_le _, ρ, s, h, .refl _ _, R, S, j0⟩, ?_⟩
  rintro i m σ1 H1 ⟨rfl, hi, ρ1, s1, h1, e1, R1, S1, j1⟩
  by_cases hlt : i < n
  · obtain ⟨go, yl⟩ := hgo i ρ1 H1 s1 h1 hlt e1 R1 j1
    refine .inr ⟨go, fun σ2 H2 => ∃ ρ2 s2 h2, Ext ρ H ρ2 H2 ∧ Rel K w ρ2 h2 H2 ∧ SRel K ρ2 H2 s2 σ2 ∧ J (i + 1) s2 h2, fun σ' H' q => ⟨n - (i + 1), by omega, rfl, hlt, q⟩, fun x H2 y => ?_⟩
    obtain ⟨rfl, rx⟩ := yl x H2 y
    refine ⟨ρ1, s1, h1, item i, _, R1, S1, rx, turn i s1 h1 hlt j1, fun ρ2 H2 s2 σ2 h2 e2 R2 S2 q2 => ?_⟩
    refine ⟨ρ2, s2, h2, _, R2, S2, q2, ?_⟩
    have again : ∀ ρ3 H3 s3 σ3 h3, Ext ρ2 H2 ρ3 H3 → Rel K w ρ3 h3 H3 → SRel K ρ3 H3 s3 σ3 → J (i + 1) s3 h3 → ∃ ρ2 s2 h2, Ext ρ H ρ2 H3 ∧ Rel K w ρ2 h2 H3 ∧ SRel K ρ2 H3 s2 σ3 ∧ J (i + 1) s2 h2 :=
      fun ρ3 H3 s3 σ3 h3 e3 R3 S3 j3 => ⟨ρ3, s3, h3, e1.trans (e2.trans e3), R3, S3, j3⟩
    exact ⟨again, fun ρ3 H3 v t h3 e3 => fin.rt ρ3 H3 v t h3 (e1.trans (e2.trans e3)), fun ρ3 H3 s3 σ3 h3 e3 => fin.nx ρ3 H3 s3 σ3 h3 (e1.trans (e2.trans e3)), again⟩
  · have e : i = n := by omega
    subst e
    exact .inl ⟨hstop ρ1 H1 s1 h1 e1 R1 j1, fin.nx ρ1 H1 s1 σ1 h1 e1 R1 S1 (done s1 h1 j1)⟩
theorem getD_of {xs : List T} {i : Nat} (h : i < xs.length) : xs[i]? = some (xs.getD i .non) := by
  rw [List.getD_eq_getElem?_getD, List.getElem?_eq_getElem h]; rfl
theorem pxs_for {tg iter : Expr} {body : List Stmt} {g : WG} {fb : WS} (hp : PassesOwn (model X.prog X.w) X.A X.env X.xe) (hc : X.calm = true) (hi : PX X iter fe) (hg : PXG X tg g) (hb : PXSs X body fb)
    (hs : ∀ x, foldedSetIterable iter X.env x = pure x := by intro _; rfl) : PXS X (.For tg iter body [] pos) (wFor fe g fb) := by
  refine ⟨(ps_for hp hc (pi_seq hi.pe) hg.pg hb.ps hs).imp fun D σ H ⟨ρ, s, h, D', R, S, hw, fin⟩ => ⟨ρ, s, h, _, R, S, hw, fun ρ1 H1 v x h1 e1 R1 r1 ⟨xs, hx, J, j0, stab, turn, done⟩ => ?_⟩⟩
  have fin1 := fin.weak e1
  have S1 := R.sl e1 S
  have turn' : ∀ i s h, i < xs.length → J i s h → g (xs.getD i .non) s h fun s2 h2 => fb { D' with nx := J (i + 1), ct := J (i + 1), bk := D'.nx } s2 h2 := fun i s h hi j => turn i _ s h (getD_of hi) j
  cases x with
  | tup l =>
    cases r1 with
    | @tup _ a ys ht hr =>
      have e : l = xs := Option.some.inj hx
      subst e
      refine ⟨a, rfl, .inr ⟨⟨ys, ht.sq⟩, for_core R1 S1 fin1 j0 turn' done (fun ρ2 H2 s2 h2 e2 R2 j2 => ?_) (fun i ρ2 H2 s2 h2 hi e2 R2 j2 => ?_)⟩⟩
      all_goals have ht2 : Tup X.K H2 a ys := (by rcases ht with z | z; exact .inl (R1.tups e2 _ _ z); exact .inr z)
      · exact ⟨ys, ht2.sq, by rw [← hr.length]; exact Nat.le_refl _⟩
      · obtain ⟨u, hu, ru⟩ := (R1.rts e2 hr).getT (getD_of hi)
        exact ⟨⟨ys, u, ht2.sq, hu⟩, fun z H3 y => ⟨y.1, by have := y.2 ys ht2.sq; rw [hu] at this; cases this; exact ru⟩⟩
  | ref n =>
    cases r1 with
    | @ref _ a hn =>
      obtain ⟨ys, hy, _⟩ := seq_ref R1 hn hx
      refine ⟨a, rfl, .inl ⟨⟨ys, hy⟩, for_core R1 S1 fin1 j0 turn' done (fun ρ2 H2 s2 h2 e2 R2 j2 => ?_) (fun i ρ2 H2 s2 h2 hi e2 R2 j2 => ?_)⟩⟩
      all_goals have hn2 : ρ2[n]? = some a := (by obtain ⟨z, hz⟩ := e2.pre; rw [← hz, List.getElem?_append_left (List.getElem?_eq_some_iff.mp hn).1]; exact hn)
      · obtain ⟨zs, hz, hr⟩ := seq_ref R2 hn2 (stab _ s2 h2 (Nat.le_refl _) j2)
        exact ⟨zs, hz, by rw [← hr.length]; exact Nat.le_refl _⟩
      · obtain ⟨zs, hz, hr⟩ := seq_ref R2 hn2 (stab _ s2 h2 (Nat.le_of_lt hi) j2)
        obtain ⟨u, hu, ru⟩ := hr.getT (getD_of hi)
        exact ⟨⟨zs, u, hz, hu⟩, fun z H3 y => ⟨y.1, by have := y.2 zs hz; rw [hu] at this; cases this; exact ru⟩⟩
  | non => cases hx
  | bl _ => cases hx
  | int _ => cases hx
  | str _ => cases hx
  | kls ns =>
    cases r1 with
    | @kls _ a hk =>
      have e : ns.map T.int = xs := Option.some.inj hx
      subst e
      refine ⟨a, rfl, .inl ⟨⟨_, .inr hk⟩, for_core R1 S1 fin1 j0 turn' done (fun ρ2 H2 s2 h2 e2 R2 j2 => ?_) (fun i ρ2 H2 s2 h2 hi e2 R2 j2 => ?_)⟩⟩
      · exact ⟨_, .inr hk, by simp⟩
      · obtain ⟨u, hu, ru⟩ := (RTs.of_ints (K := X.K) (ρ := ρ2) (H := H2) ns).getT (getD_of hi)
        exact ⟨⟨_, u, .inr hk, hu⟩, fun z H3 y => ⟨y.1, by have := y.2 _ (.inr hk); rw [hu] at this; cases this; exact ru⟩⟩
/-- over range(n) -/
def wForR (fs : WA) (g : WG) (fb : WS) : WS := fun D s h => fs s h fun ts h1 => ∃ j : Int, ts = [.int j] ∧ -(2 ^ 62) ≤ j ∧ j < 2 ^ 62 ∧ ∃ J : Nat → Sl → Hh → Prop, J 0 s h1 ∧
  (∀ i s h, i < j.toNat → J i s h → g (.int i) s h fun s2 h2 => fb { D with nx := J (i + 1), ct := J (i + 1), bk := D.nx } s2 h2) ∧ ∀ s h, J j.toNat s h → D.nx s h
theorem pxs_range1 {tg a : Expr} {body : List Stmt} {fs : WA} {g : WG} {fb : WS} {p po : Pos} (hp : PassesOwn (model X.prog X.w) X.A X.env X.xe) (hc : X.calm = true) (hgl : Gl X "range") (hm : X.mg "range" = none) (ha : PXA X [a] fs) (hg : PXG X tg g) (hb : PXSs X body fb)
    (h1 : starEach [a] X.env = [(false, eval a X.env)] := by rfl) (hs : ∀ x, foldedSetIterable (.Call (.Name "range" p) [a] [] po) X.env x = pure x := by intro _; rfl) : PXS X (.For tg (.Call (.Name "range" p) [a] [] po) body [] pos) (wForR fs g fb) := by
  refine ⟨(ps_for hp hc (pi_range1 hgl hm ha.pa h1) hg.pg hb.ps hs).imp fun D σ H ⟨ρ, s, h, D', R, S, hw, fin⟩ => ⟨ρ, s, h, _, R, S, hw, fun ρ1 H1 vs ts h1 e1 R1 r1 ⟨j, et, b1, b2, J, j0, turn, done⟩ => ?_⟩⟩
  subst et
  have ev : vs = [.int j] := RTs.ints (ns := [j]) r1
  subst ev
  refine ⟨j, rfl, b1, b2, for_core (item := fun i => .int i) R1 (R.sl e1 S) (fin.weak e1) j0 (fun i s h hi j1 => turn i s h hi j1) done (fun _ _ _ _ _ _ _ => Nat.le_refl _) (fun i ρ2 H2 s2 h2 hi e2 R2 j2 => ⟨hi, fun z H3 y => ⟨y.1, ?_⟩⟩)⟩
  rw [y.2, Int.zero_add]
  exact .int _
/-- over range(i, j, c) -/
def wForR3 (fs : WA) (g : WG) (fb : WS) : WS := fun D s h => fs s h fun ts h1 => ∃ (i j c : Int) (n : Nat), ts = [.int i, .int j, .int c] ∧ RgC i j c n ∧ ∃ J : Nat → Sl → Hh → Prop, J 0 s h1 ∧
  (∀ k s h, k < n → J k s h → g (.int (i + k * c)) s h fun s2 h2 => fb { D with nx := J (k + 1), ct := J (k + 1), bk := D.nx } s2 h2) ∧ ∀ s h, J n s h → D.nx s h
theorem pxs_range3 {tg a b c : Expr} {body : List Stmt} {fs : WA} {g : WG} {fb : WS} {p po : Pos} (hp : PassesOwn (model X.prog X.w) X.A X.env X.xe) (hc : X.calm = true) (hgl : Gl X "range") (hm : X.mg "range" = none) (ha : PXA X [a, b, c] fs) (hg : PXG X tg g) (hb : PXSs X body fb)
    (h1 : starEach [a, b, c] X.env = (false, eval a X.env) :: starEach [b, c] X.env := by rfl) (h2 : (backTo po (starEach [b, c] X.env)).any (·.1) = false := by rfl)
    (hs : ∀ x, foldedSetIterable (.Call (.Name "range" p) [a, b, c] [] po) X.env x = pure x := by intro _; rfl) : PXS X (.For tg (.Call (.Name "range" p) [a, b, c] [] po) body [] pos) (wForR3 fs g fb) := by
  refine ⟨(ps_for hp hc (pi_range3 hgl hm ha.pa h1 h2) hg.pg hb.ps hs).imp fun D σ H ⟨ρ, s, h, D', R, S, hw, fin⟩ => ⟨ρ, s, h, _, R, S, hw, fun ρ1 H1 vs ts h1 e1 R1 r1 ⟨i, j, c, n, et, rg, J, j0, turn, done⟩ => ?_⟩⟩
  subst et
  have ev : vs = [.int i, .int j, .int c] := RTs.ints (ns := [i, j, c]) r1
  subst ev
  refine ⟨i, j, c, n, rfl, rg, for_core (item := fun k => .int (i + k * c)) R1 (R.sl e1 S) (fin.weak e1) j0 (fun k s h hk j1 => turn k s h hk j1) done (fun _ _ _ _ _ _ _ => ?_) (fun k ρ2 H2 s2 h2 hk e2 R2 j2 => ⟨?_, fun z H3 y => ⟨y.1, ?_⟩⟩)⟩
  · exact Nat.le_refl _
  · exact hk
  · rw [y.2]
    exact .int _
end
end Tr

/-! List comprehensions over trees. -/
namespace Tr
open PySem PySem.Spec L2

theorem wipe_get (σ : L2.St) : ∀ (vs : List Nat) (k : Nat), (L2.wipe σ vs)[k]? = if k ∈ vs then (if k < σ.length then some none else none) else σ[k]?
  | [], k => by simp [L2.wipe]
  | v :: vs, k => by
    unfold L2.wipe
    by_cases h : v = k
    · subst h
      by_cases hl : v < σ.length
      · rw [List.getElem?_set_self (by rw [wipe_length]; exact hl)]
        simp [hl]
      · rw [List.getElem?_eq_none (by rw [List.length_set, wipe_length]; omega)]
        simp [hl]
    · rw [List.getElem?_set_ne h, wipe_get σ vs k]
      have : (k ∈ v :: vs) = (k ∈ vs) := by simp [show ¬ k = v from fun z => h z.symm]
      simp only [this]
theorem wipe_set {σ : L2.St} {vs : List Nat} {i : Nat} {x : Option V} (hi : i ∈ vs) : L2.wipe (σ.set i x) vs = L2.wipe σ vs := by
  apply List.ext_getElem?
  intro k
  rw [wipe_get, wipe_get, List.length_set]
  split
  · rfl
  · rw [List.getElem?_set_ne]
    intro z; subst z; contradiction

/-- targets that are names of the block -/
def SimG (K : PySem.W.Frag) (vs : List Nat) (g : TG) (gt : WG) : Prop :=
  ∀ (w : World) ρ h H s σ t v Q' (Q : L2.St → Hp → Prop), Rel K w ρ h H → SRel K ρ H s σ → RT K ρ H t v → gt t s h Q' → (∀ s2 σ2, SRel K ρ H s2 σ2 → L2.wipe σ2 vs = L2.wipe σ vs → Q' s2 h → Q σ2 H) → g v σ H Q
theorem simg_name {K : PySem.W.Frag} {vs : List Nat} {i : Nat} (hi : i ∈ vs) : SimG K vs (gName i) (gNm i) := fun w ρ h H s σ t v Q' Q R S r hw fin =>
  fin _ _ (S.set i r) (wipe_set hi) hw
def SimGs (K : PySem.W.Frag) (vs : List Nat) (g : TGs) (gt : WGs) : Prop :=
  ∀ (w : World) ρ h H s σ ts us Q' (Q : L2.St → Hp → Prop), Rel K w ρ h H → SRel K ρ H s σ → RTs K ρ H ts us → gt ts s h Q' → (∀ s2 σ2, SRel K ρ H s2 σ2 → L2.wipe σ2 vs = L2.wipe σ vs → Q' s2 h → Q σ2 H) → g us σ H Q
theorem simgs_nil {K : PySem.W.Frag} {vs : List Nat} : SimGs K vs gNil gsNil := fun w ρ h H s σ ts us Q' Q R S r ⟨e, hw⟩ fin => by
  subst e; cases r; exact ⟨rfl, fin _ _ S rfl hw⟩
theorem simgs_cons {K : PySem.W.Frag} {vs : List Nat} {g : TG} {gt : WG} {gs : TGs} {gst : WGs} (a : SimG K vs g gt) (b : SimGs K vs gs gst) : SimGs K vs (gCons g gs) (gsCons gt gst) := fun w ρ h H s σ ts us Q' Q R S r ⟨t, tr, e, hw⟩ fin => by
  subst e
  cases r with
  | @cons _ v _ vr r rr =>
    refine ⟨v, vr, rfl, a w ρ h H s σ t v _ _ R S r hw fun s2 σ2 S2 w2 q2 => ?_⟩
    exact b w ρ h H s2 σ2 tr vr Q' Q R S2 rr q2 fun s3 σ3 S3 w3 q3 => fin s3 σ3 S3 (w3.trans w2) q3
theorem simg_tup {K : PySem.W.Frag} {vs : List Nat} {n : Nat} {gs : TGs} {gst : WGs} (a : SimGs K vs gs gst) : SimG K vs (gTup K n gs) (gTp n gst) := fun w ρ h H s σ t v Q' Q R S r ⟨l, e, hl, hw⟩ fin => by
  subst e
  cases r with
  | tup ht hr => exact ⟨_, _, rfl, ht.sq, by rw [← hr.length]; exact hl, a w ρ h H s σ l _ Q' Q R S hr hw fin⟩

/-- what stands at D, not ours, may change -/
theorem Ext.side {ρ ρ' : List Addr} {H H' : Hp} {D : Addr} {u : HO} (x : Ext ρ H ρ' H') (hD : H D = none) : Ext ρ H ρ' (upd H' D u) :=
  ⟨x.pre, x.new, fun a hn hm => by rw [upd_ne (fun z => hn (by rw [z]; exact hD))]; exact x.keep a hn hm, fun a o v e => by rw [upd_ne (ne_of_none e hD)]; exact x.frz a o v e⟩
theorem Rel.side {K : PySem.W.Frag} {w : World} {ρ : List Addr} {h : Hh} {H : Hp} {D : Addr} {u : HO} (R : Rel K w ρ h H) (hD : D ∉ ρ) (hT : ∀ ys, H D ≠ some (.tup ys)) : Rel K w ρ h (upd H D u) := by
  refine ⟨R.len, R.nd, fun i o b e1 e2 => (R.obj i o b e1 e2).mono (List.prefix_refl _) (fun a ys e => ?_) (upd_ne ?_)⟩
  · rw [upd_ne]; exact e
    intro z; subst z; exact hT ys e
  · intro z; subst z; exact hD (List.mem_of_getElem? e2)
theorem RTs.side {K : PySem.W.Frag} {ρ : List Addr} {H : Hp} {D : Addr} {u : HO} {l : List T} {vs : List V} (hT : ∀ ys, H D ≠ some (.tup ys)) (r : RTs K ρ H l vs) : RTs K ρ (upd H D u) l vs :=
  RTs.mono (List.prefix_refl _) (fun a ys e => by rw [upd_ne]; exact e; intro z; subst z; exact hT ys e) l vs r
theorem SRel.side {K : PySem.W.Frag} {ρ : List Addr} {H : Hp} {D : Addr} {u : HO} {s : Sl} {σ : L2.St} (hT : ∀ ys, H D ≠ some (.tup ys)) (r : SRel K ρ H s σ) : SRel K ρ (upd H D u) s σ :=
  ⟨r.len, fun i t e => let ⟨v, e1, e2⟩ := r.get i t e; ⟨v, e1, RT.mono (List.prefix_refl _) (fun a ys e => by rw [upd_ne]; exact e; intro z; subst z; exact hT ys e) t v e2⟩⟩
/-- what stands at D becomes ours -/
theorem Rel.adopt {K : PySem.W.Frag} {w : World} {ρ : List Addr} {h : Hh} {H : Hp} {D : Addr} {o : O} (R : Rel K w ρ h H) (hD : D ∉ ρ) (new : ObjR K w (ρ ++ [D]) H D o) : Rel K w (ρ ++ [D]) (h ++ [o]) H := by
  refine ⟨by simp [R.len], ?_, fun i o' b e1 e2 => ?_⟩
  · rw [List.nodup_append]
    refine ⟨R.nd, by simp, fun x hx y hy => ?_⟩
    have : y = D := by simpa using hy
    subst this
    intro z; subst z; exact hD hx
  · by_cases hi : i < h.length
    · rw [List.getElem?_append_left hi] at e1
      rw [List.getElem?_append_left (by rw [R.len]; exact hi)] at e2
      exact (R.obj i o' b e1 e2).mono (List.prefix_append _ _) (fun _ _ e => e) rfl
    · have hi' : i = h.length := by
        have := (List.getElem?_eq_some_iff.mp e1).1
        simp at this; omega
      subst hi'
      have e3 : o = o' := by simpa using e1
      have e4 : D = b := by
        rw [← R.len] at e2
        simpa using e2
      subst e3 e4
      exact new

section
variable {X : Cx} {e : Expr} {fe : WE} {pos : Pos}
def stepLc (vs : List Nat) (gt : WG) (tt : WT) (te : WE) (s : Sl) (J : Nat → List T → Hh → Prop) (i : Nat) (y : T) (acc : List T) (h : Hh) : Prop :=
  gt y (wipeT s vs) h fun s2 h2 => tt s2 h2 fun b h3 => if b = true then te s2 h3 fun t h4 => acc.length < sizeLine ∧ J (i + 1) (acc ++ [t]) h4 else J (i + 1) acc h3
theorem lc_coreT {K : PySem.W.Frag} {w : World} {ρ : List Addr} {H : Hp} {s : Sl} {σ : L2.St} {h : Hh} {vs : List Nat} {g : TG} {gt : WG} {tt : WT} {te : WE} {J : Nat → List T → Hh → Prop} {n : Nat} {item : Nat → T} {W : It} {Q' : VKT} {Q : VK} (R : Rel K w ρ h H) (S : SRel K ρ H s σ) (fin : Fin K w ρ H Q' Q)
    (hg : SimG K vs g gt) (j0 : J 0 [] h) (turn : ∀ i acc h, i < n → J i acc h → stepLc vs gt tt te s J i (item i) acc h) (done : ∀ acc h, J n acc h → Q' (.ref h.length) (h ++ [.lst acc]))
    (hstop : ∀ ρ1 H1 h1 acc, Rel K w ρ1 h1 H1 → ρ <+: ρ1 → (∀ a ys, H a = some (.tup ys) → H1 a = some (.tup ys)) → J n acc h1 → W.stop n H1)
    (hgo : ∀ i ρ1 H1 h1 acc, i < n → Rel K w ρ1 h1 H1 → ρ <+: ρ1 → (∀ a ys, H a = some (.tup ys) → H1 a = some (.tup ys)) → J i acc h1 → W.go i H1 ∧ ∀ x H2, W.yld i H1 x H2 → H2 = H1 ∧ RT K ρ1 H1 (item i) x) :
    ∀ D, H D = none → ∃ Wd : Nat → Nat → Hp → Prop, (∃ m, Wd 0 m (upd H D (.lst []))) ∧ ∀ i m H, Wd i m H →
      (W.stop i H ∧ Q (.ref D) H) ∨ (W.go i H ∧ ∃ Nx : Hp → Prop, (∀ H', Nx H' → ∃ m', m' < m ∧ Wd (i + 1) m' H') ∧ ∀ x H', W.yld i H x H' → g x (L2.wipe σ vs) H' fun σ2 H2 => L2.wipe σ2 vs = L2.wipe σ vs ∧ liftT K w tt σ2 H2 fun b H3 =>
        if b = true then liftE K w te σ2 H3 fun y H4 => ∃ acc, H4 D = some (.lst acc) ∧ acc.length < sizeLine ∧ Nx (upd H4 D (.lst (acc ++ [y]))) else Nx H3) := by
  intro D hD
  let B : Nat → Hp → Prop := fun i H1 => ∃ ρ1 h1 acc us, Ext ρ H ρ1 H1 ∧ D ∉ ρ1 ∧ H1 D = some (.lst us) ∧ Rel K w ρ1 h1 H1 ∧ RTs K ρ1 H1 acc us ∧ J i acc h1
  refine ⟨fun i m H1 => m = n - i ∧ i ≤ n ∧ B i H1, ⟨n, by simp, Nat.zero_le _, ρ, h, [], [], ?_, ?_, upd_same, ?_, .nil, j0⟩, ?_⟩
  · exact .other hD
  · exact fun z => R.there z hD
  · exact R.other hD
  rintro i m H1 ⟨rfl, hi, ρ1, h1, acc, us, e1, hD1, eD, R1, ra, j1⟩
  have notT : ∀ ys, H1 D ≠ some (.tup ys) := fun ys z => by rw [eD] at z; cases z
  have tups := R.tups e1
  by_cases hlt : i < n
  · obtain ⟨go, yl⟩ := hgo i ρ1 H1 h1 acc hlt R1 e1.pre tups j1
    refine .inr ⟨go, B (i + 1), fun H' q => ⟨n - (i + 1), by omega, rfl, hlt, q⟩, fun x H2 y => ?_⟩
    obtain ⟨rfl, rx⟩ := yl x H2 y
    have S1 := (R.sl e1 S).wipe vs
    refine hg w ρ1 h1 H2 _ _ (item i) x _ _ R1 S1 rx (turn i acc h1 hlt j1) fun s2 σ2 S2 w2 q2 => ⟨?_, ?_⟩
    · have ww : L2.wipe (L2.wipe σ vs) vs = L2.wipe σ vs := by
        apply List.ext_getElem?
        intro k
        rw [wipe_get, wipe_length]
        split
        · rename_i hk
          rw [wipe_get, if_pos hk]
        · rfl
      rw [w2, ww]
    · refine ⟨ρ1, s2, h1, _, R1, S2, q2, fun ρ3 H3 b h3 e3 R3 q3 => ?_⟩
      have hD3 : D ∉ ρ3 := fun z => (e3.new D z).elim hD1 (by rw [eD]; exact fun z => nomatch z)
      have eD3 : H3 D = some (.lst us) := by rw [e3.keep D (by rw [eD]; exact fun z => nomatch z) hD1]; exact eD
      cases b with
      | false =>
        rw [if_neg Bool.false_ne_true] at q3
        refine Eq.mpr (if_neg Bool.false_ne_true) ?_
        exact ⟨ρ3, h3, acc, us, e1.trans e3, hD3, eD3, R3, R1.rts e3 ra, q3⟩
      | true =>
        rw [if_pos rfl] at q3
        refine Eq.mpr (if_pos rfl) ?_
        refine ⟨ρ3, s2, h3, _, R3, R1.sl e3 S2, q3, fun ρ4 H4 v t h4 e4 R4 r4 ⟨hz, q4⟩ => ?_⟩
        have hD4 : D ∉ ρ4 := fun z => (e4.new D z).elim hD3 (by rw [eD3]; exact fun z => nomatch z)
        have eD4 : H4 D = some (.lst us) := by rw [e4.keep D (by rw [eD3]; exact fun z => nomatch z) hD3]; exact eD3
        have notT4 : ∀ ys, H4 D ≠ some (.tup ys) := fun ys z => by rw [eD4] at z; cases z
        have ra4 := R3.rts e4 (R1.rts e3 ra)
        refine ⟨us, eD4, by rw [← ra4.length]; exact hz, ρ4, h4, acc ++ [t], us ++ [v], (e1.trans (e3.trans e4)).side hD, hD4, upd_same, R4.side hD4 notT4, RTs.side notT4 (ra4.append (.cons r4 .nil)), q4⟩
  · have e : i = n := by omega
    subst e
    refine .inl ⟨hstop ρ1 H1 h1 acc R1 e1.pre tups j1, ?_⟩
    have pre : ρ1 <+: ρ1 ++ [D] := List.prefix_append _ _
    refine fin (ρ1 ++ [D]) H1 (.ref D) (.ref h1.length) (h1 ++ [.lst acc]) ⟨List.IsPrefix.trans e1.pre pre, fun a ha => ?_, e1.keep, e1.frz⟩ (R1.adopt (o := .lst acc) hD1 ⟨us, eD, RTs.mono pre (fun _ _ e => e) _ _ ra⟩) (.ref (get_end R1.len)) (done acc h1 j1)
    rcases List.mem_append.mp ha with z | z
    · exact e1.new a z
    · have : a = D := by simpa using z
      subst this; exact .inr hD

def wLc (vs : List Nat) (fe : WE) (gt : WG) (tt : WT) (te : WE) : WE := fun s h Q => fe s h fun x h1 => ∃ xs, seqT h1 x = some xs ∧ ∃ J : Nat → List T → Hh → Prop, J 0 [] h1 ∧ (∀ i acc h, i ≤ xs.length → J i acc h → seqT h x = some xs) ∧
  (∀ i y acc h, xs[i]? = some y → J i acc h → stepLc vs gt tt te s J i y acc h) ∧ ∀ acc h, J xs.length acc h → Q (.ref h.length) (h ++ [.lst acc])
theorem lc_lift {K : PySem.W.Frag} {w : World} {vs : List Nat} {g : TG} {gt : WG} {tt : WT} {te : WE} (hg : SimG K vs g gt) {σ : L2.St} {H : Hp} {Q : VK} (q : liftE K w (wLc vs fe gt tt te) σ H Q) : tLc (iSeq K (liftE K w fe)) g (liftT K w tt) (liftE K w te) vs σ H Q := by
  obtain ⟨ρ, s, h, Q', R, S, hw, fin⟩ := q
  refine ⟨ρ, s, h, _, R, S, hw, fun ρ1 H1 v x h1 e1 R1 r1 ⟨xs, hx, J, j0, stab, turn, done⟩ => ?_⟩
  have turn' : ∀ i acc h, i < xs.length → J i acc h → stepLc vs gt tt te s J i (xs.getD i .non) acc h := fun i acc h hi j => turn i _ acc h (getD_of hi) j
  cases x with
  | tup l =>
    cases r1 with
    | @tup _ a ys ht hr =>
      have e : l = xs := Option.some.inj hx
      subst e
      refine ⟨a, rfl, .inr ⟨⟨ys, ht.sq⟩, lc_coreT R1 (R.sl e1 S) (fin.weak e1) hg j0 turn' done (fun ρ2 H2 h2 acc R2 pre tups j2 => ?_) (fun i ρ2 H2 h2 acc hi R2 pre tups j2 => ?_)⟩⟩
      all_goals have ht2 : Tup K H2 a ys := (by rcases ht with z | z; exact .inl (tups _ _ z); exact .inr z)
      · exact ⟨ys, ht2.sq, by rw [← hr.length]; exact Nat.le_refl _⟩
      · obtain ⟨u, hu, ru⟩ := (RTs.mono pre tups _ _ hr).getT (getD_of hi)
        exact ⟨⟨ys, u, ht2.sq, hu⟩, fun z H3 y => ⟨y.1, by have := y.2 ys ht2.sq; rw [hu] at this; cases this; exact ru⟩⟩
  | ref n =>
    cases r1 with
    | @ref _ a hn =>
      obtain ⟨ys, hy, _⟩ := seq_ref R1 hn hx
      refine ⟨a, rfl, .inl ⟨⟨ys, hy⟩, lc_coreT R1 (R.sl e1 S) (fin.weak e1) hg j0 turn' done (fun ρ2 H2 h2 acc R2 pre tups j2 => ?_) (fun i ρ2 H2 h2 acc hi R2 pre tups j2 => ?_)⟩⟩
      all_goals have hn2 : ρ2[n]? = some a := (by obtain ⟨z, hz⟩ := pre; rw [← hz, List.getElem?_append_left (List.getElem?_eq_some_iff.mp hn).1]; exact hn)
      · obtain ⟨zs, hz, hr⟩ := seq_ref R2 hn2 (stab _ acc h2 (Nat.le_refl _) j2)
        exact ⟨zs, hz, by rw [← hr.length]; exact Nat.le_refl _⟩
      · obtain ⟨zs, hz, hr⟩ := seq_ref R2 hn2 (stab _ acc h2 (Nat.le_of_lt hi) j2)
        obtain ⟨u, hu, ru⟩ := hr.getT (getD_of hi)
        exact ⟨⟨zs, u, hz, hu⟩, fun z H3 y => ⟨y.1, by have := y.2 zs hz; rw [hu] at this; cases this; exact ru⟩⟩
  | non => cases hx
  | bl _ => cases hx
  | int _ => cases hx
  | str _ => cases hx
  | kls ns =>
    cases r1 with
    | @kls _ a hk =>
      have e : ns.map T.int = xs := Option.some.inj hx
      subst e
      refine ⟨a, rfl, .inl ⟨⟨_, .inr hk⟩, lc_coreT R1 (R.sl e1 S) (fin.weak e1) hg j0 turn' done (fun ρ2 H2 h2 acc R2 pre tups j2 => ?_) (fun i ρ2 H2 h2 acc hi R2 pre tups j2 => ?_)⟩⟩
      · exact ⟨_, .inr hk, by simp⟩
      · obtain ⟨u, hu, ru⟩ := (RTs.of_ints (K := K) (ρ := ρ2) (H := H2) ns).getT (getD_of hi)
        exact ⟨⟨_, u, .inr hk, hu⟩, fun z H3 y => ⟨y.1, by have := y.2 _ (.inr hk); rw [hu] at this; cases this; exact ru⟩⟩
def wLcR (vs : List Nat) (fs : WA) (gt : WG) (tt : WT) (te : WE) : WE := fun s h Q => fs s h fun ts h1 => ∃ j : Int, ts = [.int j] ∧ -(2 ^ 62) ≤ j ∧ j < 2 ^ 62 ∧ ∃ J : Nat → List T → Hh → Prop, J 0 [] h1 ∧
  (∀ i acc h, i < j.toNat → J i acc h → stepLc vs gt tt te s J i (.int i) acc h) ∧ ∀ acc h, J j.toNat acc h → Q (.ref h.length) (h ++ [.lst acc])
theorem lcr_lift {K : PySem.W.Frag} {w : World} {vs : List Nat} {fs : WA} {g : TG} {gt : WG} {tt : WT} {te : WE} (hg : SimG K vs g gt) {σ : L2.St} {H : Hp} {Q : VK} (q : liftE K w (wLcR vs fs gt tt te) σ H Q) : tLc (iRng1 (liftA K w fs)) g (liftT K w tt) (liftE K w te) vs σ H Q := by
  obtain ⟨ρ, s, h, Q', R, S, hw, fin⟩ := q
  refine ⟨ρ, s, h, _, R, S, hw, fun ρ1 H1 us ts h1 e1 R1 r1 ⟨j, et, b1, b2, J, j0, turn, done⟩ => ?_⟩
  subst et
  have ev : us = [.int j] := RTs.ints (ns := [j]) r1
  subst ev
  refine ⟨j, rfl, b1, b2, lc_coreT (item := fun i => .int i) R1 (R.sl e1 S) (fin.weak e1) hg j0 turn done (fun _ _ _ _ _ _ _ _ => Nat.le_refl _) (fun i ρ2 H2 h2 acc hi R2 pre tups j2 => ⟨hi, fun z H3 y => ⟨y.1, ?_⟩⟩)⟩
  rw [y.2, Int.zero_add]
  exact .int _

structure PXTs (X : Cx) (ifs : List Expr) (t : WT) : Prop where pts : PTs X ifs (liftT X.K X.w t)
def wYes : WT := fun _ h Q => Q true h
theorem pxts_nil : PXTs X [] wYes := ⟨⟨fun pins s σ H Q I q => by
  obtain ⟨ρ, s', h, Q', R, S, hw, fin⟩ := q
  exact (pts_nil (X := X)).run pins s σ H Q I (fin ρ H true h (.refl _ _) R hw)⟩⟩
theorem pxts_one {c : Expr} {t : WT} (h : PXT X c t) : PXTs X [c] t := ⟨pts_one h.pt⟩

/-- [elt for tg in iter if ..] -/
theorem px_lc {elt tg iter : Expr} {ifs : List Expr} {scope : Scope} {own : List (Str × Nat)} {g : TG} {gt : WG} {tt : WT} {te : WE} (hc : X.calm = true) (hN : X.N.Nodup) (hi : PX X iter fe) (ok : BlkOk X.N X.env.scope scope own)
    (hg : ∀ (s : Shared) (H : Hp) (C : Addr) (cl : List (Str × Addr)) (fp : List Addr), PG (X.blk s H scope (compEnvC scope cl C X.env) fp) tg g) (hs : SimG X.K (own.map (·.2)) g gt) (ht : ∀ (s : Shared) (H : Hp) (C : Addr) (cl : List (Str × Addr)) (fp : List Addr), PXTs (X.blk s H scope (compEnvC scope cl C X.env) fp) ifs tt)
    (he : ∀ (s : Shared) (H : Hp) (C : Addr) (cl : List (Str × Addr)) (fp : List Addr), PX (X.blk s H scope (compEnvC scope cl C X.env) fp) elt te) (hf : ∀ x, foldedSetIterable iter X.env x = pure x := by intro _; rfl) :
    PX X (.ListComp elt [⟨tg, iter, ifs, 0⟩] scope pos) (wLc (own.map (·.2)) fe gt tt te) :=
  ⟨(pe_lc (tt := liftT X.K X.w tt) (te := liftE X.K X.w te) hc hN (pi_seq hi.pe) ok hg (fun s H C cl fp => (ht s H C cl fp).pts) (fun s H C cl fp => (he s H C cl fp).pe) hf).imp fun σ H Q q => lc_lift hs q⟩
theorem px_lcR {elt tg a : Expr} {ifs : List Expr} {scope : Scope} {own : List (Str × Nat)} {fs : WA} {g : TG} {gt : WG} {tt : WT} {te : WE} {p po : Pos} (hc : X.calm = true) (hN : X.N.Nodup) (hgl : Gl X "range") (hm : X.mg "range" = none) (ha : PXA X [a] fs) (ok : BlkOk X.N X.env.scope scope own)
    (hg : ∀ (s : Shared) (H : Hp) (C : Addr) (cl : List (Str × Addr)) (fp : List Addr), PG (X.blk s H scope (compEnvC scope cl C X.env) fp) tg g) (hs : SimG X.K (own.map (·.2)) g gt) (ht : ∀ (s : Shared) (H : Hp) (C : Addr) (cl : List (Str × Addr)) (fp : List Addr), PXTs (X.blk s H scope (compEnvC scope cl C X.env) fp) ifs tt)
    (he : ∀ (s : Shared) (H : Hp) (C : Addr) (cl : List (Str × Addr)) (fp : List Addr), PX (X.blk s H scope (compEnvC scope cl C X.env) fp) elt te)
    (h1 : starEach [a] X.env = [(false, eval a X.env)] := by rfl) (hf : ∀ x, foldedSetIterable (.Call (.Name "range" p) [a] [] po) X.env x = pure x := by intro _; rfl) :
    PX X (.ListComp elt [⟨tg, .Call (.Name "range" p) [a] [] po, ifs, 0⟩] scope pos) (wLcR (own.map (·.2)) fs gt tt te) :=
  ⟨(pe_lc (tt := liftT X.K X.w tt) (te := liftE X.K X.w te) hc hN (pi_range1 hgl hm ha.pa h1) ok hg (fun s H C cl fp => (ht s H C cl fp).pts) (fun s H C cl fp => (he s H C cl fp).pe) hf).imp fun σ H Q q => lcr_lift hs q⟩
/-- name = [..] -/
theorem pxs_setLc {i : Nat} {y : Str} {py : Pos} {elt tg iter : Expr} {ifs : List Expr} {scope : Scope} {own : List (Str × Nat)} {spos : Pos} {g : TG} {gt : WG} {tt : WT} {te : WE} (hc : X.calm = true) (hN : X.N.Nodup) (hy : X.N[i]? = some y) (hyl : X.env.scope.names.lookup y = some .local)
    (hsw : swapsWith (.ListComp elt [⟨tg, iter, ifs, 0⟩] scope pos) (some (.Name y py)) spos.line X.env = pure true) (hi : PX X iter fe) (ok : BlkOk X.N X.env.scope scope own)
    (hg : ∀ (s : Shared) (H : Hp) (C : Addr) (cl : List (Str × Addr)) (fp : List Addr), PG (X.blk s H scope (compEnvC scope cl C X.env) fp) tg g) (hs : SimG X.K (own.map (·.2)) g gt) (ht : ∀ (s : Shared) (H : Hp) (C : Addr) (cl : List (Str × Addr)) (fp : List Addr), PXTs (X.blk s H scope (compEnvC scope cl C X.env) fp) ifs tt)
    (he : ∀ (s : Shared) (H : Hp) (C : Addr) (cl : List (Str × Addr)) (fp : List Addr), PX (X.blk s H scope (compEnvC scope cl C X.env) fp) elt te) (hf : ∀ x, foldedSetIterable iter X.env x = pure x := by intro _; rfl) :
    PXS X (.Assign [.Name y py] (.ListComp elt [⟨tg, iter, ifs, 0⟩] scope pos) spos) (wAsg (wLc (own.map (·.2)) fe gt tt te) (gNm i)) := by
  refine ⟨(ps_setLc (tt := liftT X.K X.w tt) (te := liftE X.K X.w te) hc hN hy hyl hsw (pi_seq hi.pe) ok hg (fun s H C cl fp => (ht s H C cl fp).pts) (fun s H C cl fp => (he s H C cl fp).pe) hf).imp fun D σ H q => ?_⟩
  obtain ⟨ρ, s, h, D', R, S, hw, fin⟩ := q
  refine lc_lift (w := X.w) (fe := fe) (tt := tt) (te := te) hs (Q := fun x H1 => gName i x σ H1 D.nx) ⟨ρ, s, h, _, R, S, hw, fun ρ1 H1 x tx h1 e1 R1 r1 q1 => ?_⟩
  exact fin.nx ρ1 H1 _ _ h1 e1 R1 ((R.sl e1 S).set i r1) q1
theorem pxs_setLcR {i : Nat} {y : Str} {py : Pos} {elt tg a : Expr} {ifs : List Expr} {scope : Scope} {own : List (Str × Nat)} {spos : Pos} {fs : WA} {g : TG} {gt : WG} {tt : WT} {te : WE} {p po : Pos} (hc : X.calm = true) (hN : X.N.Nodup) (hy : X.N[i]? = some y) (hyl : X.env.scope.names.lookup y = some .local)
    (hsw : swapsWith (.ListComp elt [⟨tg, .Call (.Name "range" p) [a] [] po, ifs, 0⟩] scope pos) (some (.Name y py)) spos.line X.env = pure true) (hgl : Gl X "range") (hm : X.mg "range" = none) (ha : PXA X [a] fs) (ok : BlkOk X.N X.env.scope scope own)
    (hg : ∀ (s : Shared) (H : Hp) (C : Addr) (cl : List (Str × Addr)) (fp : List Addr), PG (X.blk s H scope (compEnvC scope cl C X.env) fp) tg g) (hs : SimG X.K (own.map (·.2)) g gt) (ht : ∀ (s : Shared) (H : Hp) (C : Addr) (cl : List (Str × Addr)) (fp : List Addr), PXTs (X.blk s H scope (compEnvC scope cl C X.env) fp) ifs tt)
    (he : ∀ (s : Shared) (H : Hp) (C : Addr) (cl : List (Str × Addr)) (fp : List Addr), PX (X.blk s H scope (compEnvC scope cl C X.env) fp) elt te)
    (h1 : starEach [a] X.env = [(false, eval a X.env)] := by rfl) (hf : ∀ x, foldedSetIterable (.Call (.Name "range" p) [a] [] po) X.env x = pure x := by intro _; rfl) :
    PXS X (.Assign [.Name y py] (.ListComp elt [⟨tg, .Call (.Name "range" p) [a] [] po, ifs, 0⟩] scope pos) spos) (wAsg (wLcR (own.map (·.2)) fs gt tt te) (gNm i)) := by
  refine ⟨(ps_setLc (tt := liftT X.K X.w tt) (te := liftE X.K X.w te) hc hN hy hyl hsw (pi_range1 hgl hm ha.pa h1) ok hg (fun s H C cl fp => (ht s H C cl fp).pts) (fun s H C cl fp => (he s H C cl fp).pe) hf).imp fun D σ H q => ?_⟩
  obtain ⟨ρ, s, h, D', R, S, hw, fin⟩ := q
  refine lcr_lift (w := X.w) (fs := fs) (tt := tt) (te := te) hs (Q := fun x H1 => gName i x σ H1 D.nx) ⟨ρ, s, h, _, R, S, hw, fun ρ1 H1 x tx h1 e1 R1 r1 q1 => ?_⟩
  exact fin.nx ρ1 H1 _ _ h1 e1 R1 ((R.sl e1 S).set i r1) q1
end
end Tr

/-! Operators and built-ins over trees. -/
namespace Tr
open PySem PySem.Spec L2

/-! ### data -/
mutual
def dT : T → PyData
  | .non => .none
  | .bl b => .bool b
  | .int i => .int i
  | .str x => .str x
  | .tup l => .tuple (dTs l)
  | .ref _ => .none
  | .kls _ => .none
def dTs : List T → List PyData
  | [] => []
  | t :: l => dT t :: dTs l
end
section
variable {K : PySem.W.Frag} {w : World} {ρ : List Addr} {H : Hp} {h : Hh}
mutual
theorem dp_of : ∀ (t : T) (v : V), RT K ρ H t v → pureT t = true → Dp K H v (dT t)
  | .non, _, r, _ => by cases r; exact .non
  | .bl b, _, r, _ => by cases r; exact .bl b
  | .int i, _, r, _ => by cases r; exact .int i
  | .str x, _, r, _ => by cases r; exact .str x
  | .tup l, _, r, p => by
    cases r with
    | tup ht hr => exact .tup ht.sq (dps_of l _ hr p)
  | .ref n, _, _, p => by cases p
  | .kls _, _, _, p => by cases p
theorem dps_of : ∀ (l : List T) (vs : List V), RTs K ρ H l vs → pureTs l = true → DpAll K H vs (dTs l)
  | [], _, r, _ => by cases r; exact .nil
  | t :: l, _, r, p => by
    cases r with
    | cons r1 r2 =>
      have p' : (pureT t && pureTs l) = true := p
      rw [Bool.and_eq_true] at p'
      exact .cons (dp_of t _ r1 p'.1) (dps_of l _ r2 p'.2)
end
def datO (h : Hh) (t : T) : Option PyData := match t with
  | .ref n => (seqO h[n]?).bind fun xs => if pureTs xs = true then some (.list (dTs xs)) else none
  | t => if pureT t = true then some (dT t) else none
theorem datO_dp (R : Rel K w ρ h H) {t : T} {v : V} {d : PyData} (r : RT K ρ H t v) (e : datO h t = some d) : Dp K H v d := by
  have pure_case : ∀ t : T, RT K ρ H t v → (if pureT t = true then some (dT t) else none) = some d → Dp K H v d := fun t r e => by
    by_cases p : pureT t = true
    · rw [if_pos p] at e; cases e; exact dp_of t v r p
    · rw [if_neg p] at e; cases e
  cases t with
  | ref n =>
    cases r with
    | @ref _ a hn =>
      change (seqO h[n]?).bind _ = some d at e
      cases hs : seqO h[n]? with
      | none => rw [hs] at e; cases e
      | some xs =>
        rw [hs] at e
        obtain ⟨ys, h1, h2⟩ := seq_ref R hn (xs := xs) hs
        by_cases p : pureTs xs = true
        · have e' : (if pureTs xs = true then some (PyData.list (dTs xs)) else none) = some d := e
          rw [if_pos p] at e'; cases e'
          exact .lst h1 (dps_of xs ys h2 p)
        · have e' : (if pureTs xs = true then some (PyData.list (dTs xs)) else none) = some d := e
          rw [if_neg p] at e'; cases e'
  | non => exact pure_case _ r e
  | bl _ => exact pure_case _ r e
  | int _ => exact pure_case _ r e
  | str _ => exact pure_case _ r e
  | kls _ => exact pure_case _ r e
  | tup _ => exact pure_case _ r e
end

section
variable {X : Cx}
/-! ### whole numbers -/
def gI (C : Int → Int → Prop) (g : Int → Int → T) : G2 := fun x y h Q => ∃ i j, x = .int i ∧ y = .int j ∧ C i j ∧ Q (g i j) h
theorem opx_I {f : Value → Value → Sem Value} {C : Int → Int → Prop} {g : Int → Int → V} {gt : Int → Int → T} (o : OpR X f (rI C g)) (hg : ∀ K ρ H i j, RT K ρ H (gt i j) (g i j)) : OpX X f (gI C gt) :=
  ⟨_, o, fun ρ h H x y tx ty Q' Q R rx ry ⟨i, j, e1, e2, c, q⟩ fin => by
    subst e1 e2
    cases rx; cases ry
    exact ⟨i, j, rfl, rfl, c, fin ρ H _ _ h (.refl _ _) R (hg _ _ _ i j) q⟩⟩
def gI0 (g : Int → Int → T) : G2 := fun x y h Q => ∃ i j, x = .int i ∧ y = .int j ∧ Q (g i j) h
theorem opx_I0 {f : Value → Value → Sem Value} {g : Int → Int → V} {gt : Int → Int → T} (o : OpR X f (rI0 g)) (hg : ∀ K ρ H i j, RT K ρ H (gt i j) (g i j)) : OpX X f (gI0 gt) :=
  ⟨_, o, fun ρ h H x y tx ty Q' Q R rx ry ⟨i, j, e1, e2, q⟩ fin => by
    subst e1 e2
    cases rx; cases ry
    exact ⟨i, j, rfl, rfl, fin ρ H _ _ h (.refl _ _) R (hg _ _ _ i j) q⟩⟩
theorem ox_addI : OpX X (binaryOp .Add) (gI0 fun i j => .int (i + j)) := opx_I0 op_add fun _ _ _ i j => .int _
theorem ox_sub : OpX X (binaryOp .Sub) (gI0 fun i j => .int (i - j)) := opx_I0 op_sub fun _ _ _ i j => .int _
theorem op_mulG : OpR X (binaryOp .Mult) (rI IntMulOk fun i j => .int (i * j)) := opI fun _ _ _ _ _ _ _ hc q => PyProof.Rows.mul_int q hc
theorem ox_mul : OpX X (binaryOp .Mult) (gI IntMulOk fun i j => .int (i * j)) := opx_I op_mulG fun _ _ _ i j => .int _
theorem ox_fdiv : OpX X (binaryOp .FloorDiv) (gI CDivN fun i j => .int (i.fdiv j)) := opx_I op_fdivN fun _ _ _ i j => .int _
theorem ox_mod : OpX X (binaryOp .Mod) (gI (fun _ j => j ≠ 0) fun i j => .int (i.fmod j)) := opx_I op_modN fun _ _ _ i j => .int _
theorem ox_pow : OpX X (binaryOp .Pow) (gI CPow fun i j => .int (i ^ j.toNat)) := opx_I op_pow fun _ _ _ i j => .int _
theorem ox_lt : OpX X (compareOp .Lt) (gI0 fun i j => .bl (decide (i < j))) := opx_I0 op_lt fun _ _ _ i j => .bl _
theorem ox_le : OpX X (compareOp .LtE) (gI0 fun i j => .bl (decide (i ≤ j))) := opx_I0 op_le fun _ _ _ i j => .bl _
theorem ox_gtI : OpX X (compareOp .Gt) (gI0 fun i j => .bl (decide (j < i))) := opx_I0 op_gt fun _ _ _ i j => .bl _
theorem ox_ge : OpX X (compareOp .GtE) (gI0 fun i j => .bl (decide (j ≤ i))) := opx_I0 op_ge fun _ _ _ i j => .bl _
theorem ux_neg : UnX X (unaryOp .USub) (fun x h Q => ∃ i, x = .int i ∧ Q (.int (-i)) h) := ⟨_, un_neg, fun ρ h H x tx Q' Q R rx ⟨i, e, q⟩ fin => by
  subst e; cases rx
  exact ⟨i, rfl, fin ρ H _ _ h (.refl _ _) R (.int _) q⟩⟩

/-! ### + of lists, of tuples -/
def gCat : G2 := fun x y h Q => ∃ a b xs ys, x = .ref a ∧ y = .ref b ∧ h[a]? = some (.lst xs) ∧ h[b]? = some (.lst ys) ∧ xs.length + ys.length ≤ sizeLine ∧ Q (.ref h.length) (h ++ [.lst (xs ++ ys)])
theorem Rel.lstAt {K : PySem.W.Frag} {w : World} {ρ : List Addr} {h : Hh} {H : Hp} (R : Rel K w ρ h H) {n : Nat} {v : V} {xs : List T} (r : RT K ρ H (.ref n) v) (e : h[n]? = some (.lst xs)) : ∃ a ys, v = .ref a ∧ ρ[n]? = some a ∧ H a = some (.lst ys) ∧ RTs K ρ H xs ys := by
  cases r with
  | @ref _ a hn =>
    obtain ⟨ys, h1, h2⟩ := R.obj n _ a e hn
    exact ⟨a, ys, rfl, hn, h1, h2⟩
theorem ox_cat : OpX X (binaryOp .Add) gCat := ⟨_, op_cat, fun ρ h H x y tx ty Q' Q R rx ry ⟨a, b, xs, ys, e1, e2, h1, h2, hz, q⟩ fin => by
  subst e1 e2
  obtain ⟨a', us, rfl, _, g1, r1⟩ := R.lstAt rx h1
  obtain ⟨b', vs, rfl, _, g2, r2⟩ := R.lstAt ry h2
  exact ⟨a', b', us, vs, rfl, rfl, g1, g2, by rw [← r1.length, ← r2.length]; exact hz, fun p hp => fin_lst R (r1.append r2) fin q hp⟩⟩
def gCatT : G2 := fun x y h Q => ∃ l m, x = .tup l ∧ y = .tup m ∧ l ≠ [] ∧ l.length + m.length ≤ sizeLine ∧ Q (.tup (l ++ m)) h
theorem ox_catT : OpX X (binaryOp .Add) gCatT := ⟨_, op_catT, fun ρ h H x y tx ty Q' Q R rx ry ⟨l, m, e1, e2, hl, hz, q⟩ fin => by
  subst e1 e2
  cases rx with
  | @tup _ a us ha ra =>
    cases ry with
    | @tup _ b vs hb rb =>
      refine ⟨a, b, us, vs, rfl, rfl, ha.sq, hb.sq, ?_, by rw [← ra.length, ← rb.length]; exact hz, fun ev => ?_, fun _ p hp => fin_tup R (ra.append rb) fin q hp⟩
      · intro z; subst z
        cases ra
        exact hl rfl
      · subst ev
        cases rb
        rw [List.append_nil] at q
        exact fin ρ H _ _ h (.refl _ _) R (.tup ha ra) q⟩
def gAdd : G2 := fun x y h Q => gI0 (fun i j => .int (i + j)) x y h Q ∨ gCat x y h Q ∨ gCatT x y h Q
theorem ox_add : OpX X (binaryOp .Add) gAdd := ox_addI.or (ox_cat.or ox_catT)

/-! ### ==, !=, > of data -/
def gEqD (neg : Bool) : G2 := fun x y h Q => ∃ d e, datO h x = some d ∧ datO h y = some e ∧ SeqAt.shaped d = true ∧ SeqAt.shaped e = true ∧ Q (.bl (if neg then !PyData.eqv d e else PyData.eqv d e)) h
theorem ox_eq (hu : X.A.units + 64 < cLine) : OpX X (compareOp .Eq) (gEqD false) := ⟨_, op_eqD hu, fun ρ h H x y tx ty Q' Q R rx ry ⟨d, e, h1, h2, s1, s2, q⟩ fin =>
  ⟨d, e, datO_dp R rx h1, datO_dp R ry h2, s1, s2, fin ρ H _ _ h (.refl _ _) R (.bl _) q⟩⟩
theorem ox_ne (hu : X.A.units + 64 < cLine) : OpX X (compareOp .NotEq) (gEqD true) := ⟨_, op_neD hu, fun ρ h H x y tx ty Q' Q R rx ry ⟨d, e, h1, h2, s1, s2, q⟩ fin =>
  ⟨d, e, datO_dp R rx h1, datO_dp R ry h2, s1, s2, fin ρ H _ _ h (.refl _ _) R (.bl _) q⟩⟩
def gGtD : G2 := fun x y h Q => ∃ d e, datO h x = some d ∧ datO h y = some e ∧ SeqAt.shaped d = true ∧ W.alike d e = true ∧ d ≠ .none ∧ Q (.bl (W.dataLt e d)) h
theorem op_gtD (hu : X.A.units + 64 < cLine) : OpR X (compareOp .Gt) (fun x y H Q => ∃ d e, Dp X.K H x d ∧ Dp X.K H y e ∧ SeqAt.shaped d = true ∧ W.alike d e = true ∧ d ≠ .none ∧ Q (.bl (W.dataLt e d)) H) := by
  intro pins s σ H x y v u Q I rx ry ⟨d, e, h1, h2, s1, s2, s3, q⟩
  obtain ⟨as, ra⟩ := Dp.reads I d x v h1 rx
  obtain ⟨bs, rb⟩ := Dp.reads I e y u h2 ry
  exact W.gt_data ra rb s2 s3 (SeqAt.room_of_shaped s1 hu) ⟨.bl _, H, I, rfl, q⟩
theorem ox_gtD (hu : X.A.units + 64 < cLine) : OpX X (compareOp .Gt) gGtD := ⟨_, op_gtD hu, fun ρ h H x y tx ty Q' Q R rx ry ⟨d, e, h1, h2, s1, s2, s3, q⟩ fin =>
  ⟨d, e, datO_dp R rx h1, datO_dp R ry h2, s1, s2, s3, fin ρ H _ _ h (.refl _ _) R (.bl _) q⟩⟩
def gGt : G2 := fun x y h Q => gI0 (fun i j => .bl (decide (j < i))) x y h Q ∨ gGtD x y h Q
theorem ox_gt (hu : X.A.units + 64 < cLine) : OpX X (compareOp .Gt) gGt := ox_gtI.or (ox_gtD hu)

/-! ### is -/
def isNon : T → Bool
  | .non => true
  | _ => false
theorem isNon_of {K : PySem.W.Frag} {ρ : List Addr} {H : Hp} {t : T} {v : V} (r : RT K ρ H t v) : decide (v = V.non) = isNon t := by
  cases r <;> simp [isNon]
def isBl (b : Bool) : T → Bool
  | .bl c => c == b
  | _ => false
theorem isBl_of {K : PySem.W.Frag} {ρ : List Addr} {H : Hp} {b : Bool} {t : T} {v : V} (r : RT K ρ H t v) : decide (v = V.bl b) = isBl b t := by
  cases r <;> simp [isBl, Bool.beq_eq_decide_eq]
theorem op_isBool : OpR X (compareOp .Is) (fun x y H Q => ∃ b, y = .bl b ∧ Q (.bl (decide (x = .bl b))) H) := by
  intro pins s σ H x y v u Q I rx ry ⟨b, e, q⟩
  subst e
  cases (show u = Value.bool b from ry)
  have go : ∀ {v : Value}, plainIs v (.bool b) = true → (v = Value.bool b ↔ x = .bl b) → wpAny (model X.prog X.w) X.A (compareOp .Is v (.bool b)) (EP X pins σ Q) X.xe s := fun {v} hp hi => by
    by_cases z : x = .bl b
    · rw [hi.mpr z]
      exact wpAny_is_self rfl ⟨.bl true, H, I, rfl, by simpa [z] using q⟩
    · exact wpAny_is_other hp (fun e => z (hi.mp e)) ⟨.bl false, H, I, rfl, by simpa [z] using q⟩
  cases x with
  | non => cases rx; exact go rfl (by simp)
  | bl c => cases rx; exact go rfl (by simp)
  | int i => obtain ⟨t, rfl⟩ := rx; exact go rfl (by simp)
  | str i => obtain ⟨t, rfl⟩ := rx; exact go rfl (by simp)
  | byt i => obtain ⟨t, rfl⟩ := rx; exact go rfl (by simp)
  | flt i => obtain ⟨t, rfl⟩ := rx; exact go rfl (by simp)
  | ref a => cases rx; exact go rfl (by simp)
  | ty n => cases rx; exact go rfl (by simp)
def gIs (neg : Bool) : G2 := fun x y h Q => (y = .non ∧ Q (.bl (if neg then !isNon x else isNon x)) h)
def gIsB : G2 := fun x y h Q => ∃ b, y = .bl b ∧ Q (.bl (isBl b x)) h
theorem ox_isN : OpX X (compareOp .Is) (gIs false) := ⟨_, op_isN, fun ρ h H x y tx ty Q' Q R rx ry ⟨e, q⟩ fin => by
  subst e; cases ry
  exact ⟨rfl, by rw [isNon_of rx]; exact fin ρ H _ _ h (.refl _ _) R (.bl _) q⟩⟩
theorem ox_notN : OpX X (compareOp .IsNot) (gIs true) := ⟨_, op_notN, fun ρ h H x y tx ty Q' Q R rx ry ⟨e, q⟩ fin => by
  subst e; cases ry
  exact ⟨rfl, by rw [isNon_of rx]; exact fin ρ H _ _ h (.refl _ _) R (.bl _) q⟩⟩
theorem ox_isB : OpX X (compareOp .Is) gIsB := ⟨_, op_isBool, fun ρ h H x y tx ty Q' Q R rx ry ⟨b, e, q⟩ fin => by
  subst e; cases ry
  exact ⟨b, rfl, by rw [isBl_of rx]; exact fin ρ H _ _ h (.refl _ _) R (.bl _) q⟩⟩

/-! ### in a list or a tuple of flat things -/
def flatT : T → Bool
  | .non | .bl _ | .int _ | .str _ => true
  | _ => false
def eqT : T → T → Bool
  | .non, .non => true
  | .bl a, .bl b => a == b
  | .bl a, .int j => (if a then 1 else 0) == j
  | .int i, .bl b => i == (if b then 1 else 0)
  | .int i, .int j => i == j
  | .str x, .str y => x == y
  | _, _ => false
end
end Tr

/-! in, subscripts, slices, methods of lists, built-ins, isinstance. -/
namespace Tr
open PySem PySem.Spec L2

section
variable {K : PySem.W.Frag} {w : World} {ρ : List Addr} {H : Hp} {h : Hh}
theorem flat_of {t : T} {v : V} (r : RT K ρ H t v) (f : flatT t = true) : flatV v = true := by
  cases r <;> first | rfl | cases f
theorem flats_of : ∀ {l : List T} {vs : List V}, RTs K ρ H l vs → l.all flatT = true → vs.all flatV = true
  | [], _, r, _ => by cases r; rfl
  | t :: l, _, r, f => by
    cases r with
    | cons a b =>
      rw [List.all_cons, Bool.and_eq_true] at f
      rw [List.all_cons, flat_of a f.1, flats_of b f.2]; rfl
theorem eqV_of {t u : T} {v z : V} (r : RT K ρ H t v) (q : RT K ρ H u z) (f : flatT t = true) (g : flatT u = true) : eqV v z = eqT t u := by
  cases r <;> cases q <;> first | rfl | cases f | cases g
def inT (x : T) (xs : List T) : Bool := xs.any fun y => eqT y x
theorem inV_of {x : T} {v : V} (r : RT K ρ H x v) (f : flatT x = true) : ∀ {l : List T} {vs : List V}, RTs K ρ H l vs → l.all flatT = true → inV v vs = inT x l
  | [], _, q, _ => by cases q; rfl
  | t :: l, _, q, g => by
    cases q with
    | cons a b =>
      rw [List.all_cons, Bool.and_eq_true] at g
      have ih := inV_of r f b g.2
      unfold inV inT at ih ⊢
      rw [List.any_cons, List.any_cons, ih, eqV_of a r g.1 f]
theorem seq_any (R : Rel K w ρ h H) {x : T} {v : V} {xs : List T} (r : RT K ρ H x v) (e : seqT h x = some xs) : ∃ p ys, v = .ref p ∧ (SqL K H p ys ∨ SqT K H p ys) ∧ RTs K ρ H xs ys := by
  cases x with
  | ref n =>
    cases r with
    | @ref _ a hn =>
      obtain ⟨ys, h1, h2⟩ := seq_ref R hn e
      exact ⟨a, ys, rfl, .inl h1, h2⟩
  | tup l =>
    cases r with
    | @tup _ a ys ht hr => cases e; exact ⟨a, ys, rfl, .inr ht.sq, hr⟩
  | non => cases e
  | bl _ => cases e
  | int _ => cases e
  | str _ => cases e
  | kls ns =>
    cases r with
    | @kls _ a hk => cases e; exact ⟨a, _, rfl, .inl (.inr hk), RTs.of_ints ns⟩
end

section
variable {X : Cx}
def gIn (neg : Bool) : G2 := fun x y h Q => ∃ xs, seqT h y = some xs ∧ flatT x = true ∧ xs.all flatT = true ∧ Q (.bl (if neg then !inT x xs else inT x xs)) h
theorem gin_sim (neg : Bool) : SimR X.K X.w (rIn X.K neg) (gIn neg) := fun ρ h H x y tx ty Q' Q R rx ry ⟨xs, e, f, fs, q⟩ fin => by
  obtain ⟨p, ys, rfl, hs, rs⟩ := seq_any R ry e
  refine ⟨p, ys, rfl, hs, flat_of rx f, flats_of rs fs, ?_⟩
  rw [inV_of rx f rs fs]
  exact fin ρ H _ _ h (.refl _ _) R (.bl _) q
theorem ox_inS : OpX X (compareOp .In) (gIn false) := ⟨_, op_in_seq, gin_sim false⟩
theorem ox_notInS : OpX X (compareOp .NotIn) (gIn true) := ⟨_, op_notIn_seq, gin_sim true⟩

/-! ### x[i] -/
def IxX (X : Cx) (g : G2) : Prop := ∃ r, IxR X r ∧ SimR X.K X.w r g
theorem IxX.or {g g' : G2} (a : IxX X g) (b : IxX X g') : IxX X (fun x y h Q => g x y h Q ∨ g' x y h Q) := by
  obtain ⟨r, o, s⟩ := a
  obtain ⟨r', o', s'⟩ := b
  refine ⟨_, o.or o', fun ρ h H x y tx ty Q' Q R rx ry q fin => ?_⟩
  rcases q with q | q
  · exact .inl (s ρ h H x y tx ty Q' Q R rx ry q fin)
  · exact .inr (s' ρ h H x y tx ty Q' Q R rx ry q fin)
theorem px_ix {a b : Expr} {fa fb : WE} {g : G2} {pos : Pos} (hr : IxX X g) (ha : PX X a fa) (hb : PX X b fb) (hs : PlainIx b) : PX X (.Subscript a b pos) (wBin g fa fb) := by
  obtain ⟨r, o, s⟩ := hr
  exact ⟨(pe_ix o ha.pe hb.pe hs).imp fun σ H Q q => lift_bin s q⟩
def gIx : G2 := fun x y h Q => ∃ xs i v, seqT h x = some xs ∧ y = .int i ∧ atI xs i = some v ∧ Q v h
theorem atI_rt {K : PySem.W.Frag} {ρ : List Addr} {H : Hp} {xs : List T} {ys : List V} {i : Int} {t : T} (r : RTs K ρ H xs ys) (e : atI xs i = some t) : ∃ v, atI ys i = some v ∧ RT K ρ H t v := by
  unfold atI at e ⊢
  rw [← r.length]
  cases hi : ixN xs.length i with
  | none => rw [hi] at e; cases e
  | some j =>
    rw [hi] at e
    exact r.getT e
theorem ix_seqX : IxX X gIx := ⟨_, ix_list.or ix_tup, fun ρ h H x y tx ty Q' Q R rx ry ⟨xs, i, t, e, ey, et, q⟩ fin => by
  subst ey; cases ry
  obtain ⟨p, ys, rfl, hs, rs⟩ := seq_any R rx e
  obtain ⟨v, ev, rv⟩ := atI_rt rs et
  have qv := fin ρ H v t h (.refl _ _) R rv q
  rcases hs with hs | hs
  · exact .inl ⟨p, ys, i, v, rfl, rfl, hs, ev, qv⟩
  · exact .inr ⟨p, ys, i, v, rfl, rfl, hs, ev, qv⟩⟩

/-! ### slices -/
abbrev WO := Sl → Hh → (Option Int → Hh → Prop) → Prop
def liftO (K : PySem.W.Frag) (w : World) (f : WO) : TO := fun σ H Q => ∃ ρ s h Q', Rel K w ρ h H ∧ SRel K ρ H s σ ∧ f s h Q' ∧ ∀ ρ2 H2 o h2, Ext ρ H ρ2 H2 → Rel K w ρ2 h2 H2 → Q' o h2 → Q o H2
structure PXO (X : Cx) (e : Option Expr) (f : WO) : Prop where po : PO X e (liftO X.K X.w f)
theorem _root_.L2.PO.imp {e : Option Expr} {t t' : TO} (h : PO X e t) (i : ∀ σ H Q, t' σ H Q → t σ H Q) : PO X e t' := ⟨fun p s σ H Q I q => h.run p s σ H Q I (i σ H Q q)⟩
def wNoP : WO := fun _ h Q => Q none h
def wPart (f : WE) : WO := fun s h Q => f s h fun x h1 => ∃ i, x = .int i ∧ Q (some i) h1
theorem pxo_none : PXO X none wNoP := ⟨po_none.imp fun σ H Q ⟨ρ, s, h, Q', R, S, hw, fin⟩ => fin ρ H none h (.refl _ _) R hw⟩
theorem pxo_some {e : Expr} {f : WE} (he : PX X e f) : PXO X (some e) (wPart f) := ⟨(po_some he.pe).imp fun σ H Q ⟨ρ, s, h, Q', R, S, hw, fin⟩ => ⟨ρ, s, h, _, R, S, hw, fun ρ1 H1 v t h1 e1 R1 r1 ⟨i, e2, q1⟩ => by
  subst e2; cases r1
  exact ⟨i, rfl, fin ρ1 H1 (some i) h1 e1 R1 q1⟩⟩⟩
def cutT (xs : List T) (lo hi : Option Int) : List T := (xs.drop (HT.sIx xs.length 0 lo)).take (HT.sIx xs.length xs.length hi - HT.sIx xs.length 0 lo)
theorem RTs.cut {K : PySem.W.Frag} {ρ : List Addr} {H : Hp} {xs : List T} {ys : List V} (r : RTs K ρ H xs ys) (lo hi : Option Int) : RTs K ρ H (cutT xs lo hi) (cutV ys lo hi) := by
  unfold cutT cutV
  rw [← r.length]
  exact (r.drop _).take _
abbrev GSl := T → Option Int → Option Int → Hh → VKT → Prop
def gSl : GSl := fun x lo hi h Q => (∃ n xs, x = .ref n ∧ seqT h (.ref n) = some xs ∧ Q (.ref h.length) (h ++ [.lst (cutT xs lo hi)])) ∨
  ∃ l, x = .tup l ∧ ¬ (HT.sIx l.length 0 lo = 0 ∧ HT.sIx l.length l.length hi = l.length) ∧ Q (.tup (cutT l lo hi)) h
def wSl (g : GSl) (fe : WE) (fl fh : WO) : WE := fun s h Q => fe s h fun x h1 => fl s h1 fun lo h2 => fh s h2 fun hi h3 => g x lo hi h3 Q
theorem px_slice {e : Expr} {lo hi : Option Expr} {fe : WE} {fl fh : WO} {pos p2 : Pos} (he : PX X e fe) (hl : PXO X lo fl) (hh : PXO X hi fh) : PX X (.Subscript e (.Slice lo hi none p2) pos) (wSl gSl fe fl fh) := by
  refine ⟨(pe_slice (sl_list.or sl_tup) he.pe hl.po hh.po).imp fun σ H Q ⟨ρ, s, h, Q', R, S, hw, fin⟩ => ⟨ρ, s, h, _, R, S, hw, fun ρ1 H1 v t h1 e1 R1 r1 q1 =>
    ⟨ρ1, s, h1, _, R1, R.sl e1 S, q1, fun ρ2 H2 lo h2 e2 R2 q2 => ⟨ρ2, s, h2, _, R2, R1.sl e2 (R.sl e1 S), q2, fun ρ3 H3 hi h3 e3 R3 q3 => ?_⟩⟩⟩⟩
  have r3 := R2.rt e3 (R1.rt e2 r1)
  have fin3 := fin.weak (e1.trans (e2.trans e3))
  rcases q3 with ⟨n, xs, ex, hx, q⟩ | ⟨l, ex, hw', q⟩
  · subst ex
    cases r3 with
    | @ref _ a hn =>
      obtain ⟨ys, h1', h2'⟩ := seq_ref R3 hn hx
      exact .inl ⟨a, ys, rfl, h1', fun p hp => fin_lst R3 (h2'.cut lo hi) fin3 q hp⟩
  · subst ex
    cases r3 with
    | @tup _ a ys ht hr => exact .inr ⟨a, ys, rfl, ht.sq, by rw [← hr.length]; exact hw', fun p hp => fin_tup R3 (hr.cut lo hi) fin3 q hp⟩

/-! ### methods of lists -/
abbrev GM := T → List T → Hh → VKT → Prop
def MtX (X : Cx) (id : String) (g : GM) : Prop := ∃ r : V → List V → Hp → VK → Prop, MtR X id r ∧ ∀ ρ h H x xs tx ts Q' Q, Rel X.K X.w ρ h H → RT X.K ρ H tx x → RTs X.K ρ H ts xs → g tx ts h Q' → Fin X.K X.w ρ H Q' Q → r x xs H Q
def isLst (x : T) (h : Hh) : Prop := ∃ n xs, x = .ref n ∧ seqT h (.ref n) = some xs
theorem tyV_lst {K : PySem.W.Frag} {w : World} {ρ : List Addr} {h : Hh} {H : Hp} (R : Rel K w ρ h H) {x : T} {v : V} (r : RT K ρ H x v) (i : isLst x h) : tyV K "list" v H := by
  obtain ⟨n, xs, rfl, e⟩ := i
  cases r with
  | @ref _ a hn =>
    obtain ⟨ys, h1, _⟩ := seq_ref R hn e
    exact .inl ⟨rfl, ys, h1⟩
def wMt (g : GM) (fo : WE) (fs : WA) : WE := fun s h Q => fo s h fun x h1 => isLst x h1 ∧ fs s h1 fun ts h2 => g x ts h2 Q
variable {o e : Expr} {es : List Expr} {fo : WE} {fs : WA} {name : Str} {apos cpos : Pos} {id : String} {g : GM}
theorem px_mt (slot : Slot "list" name id) (hty : typeOf (.builtin id) = pure (.type "method_descriptor")) (hm : MtX X id g) (ho : PX X o fo) (ha : PXA X (e :: es) fs)
    (hbase : attributeBase o name X.env (eval o X.env) = eval o X.env := by rfl)
    (hfew : ((backTo cpos (starEach (e :: es) X.env)).all (fun x => !x.1) && (backToKw cpos (keywordEach [] X.env)).all (fun x => x.1.isSome)
      && decide ((e :: es).length + ([] : List Keyword).length + (if ([] : List Keyword).isEmpty then 0 else 1) < 30)) = true := by rfl)
    (hline : (apos.endLine == cpos.line) = true := by rfl) (hs : starEach (e :: es) X.env = (false, eval e X.env) :: starEach es X.env := by rfl) (hplain : (backTo cpos (starEach es X.env)).any (·.1) = false := by rfl) :
    PX X (.Call (.Attribute o name apos) (e :: es) [] cpos) (wMt g fo fs) := by
  obtain ⟨r, m, s⟩ := hm
  refine ⟨(pe_bm PySem.F.plainAttrs_list slot hty m ho.pe ha.pa hbase hfew hline hs hplain).imp fun σ H Q ⟨ρ, s', h, Q', R, S, hw, fin⟩ => ⟨ρ, s', h, _, R, S, hw, fun ρ1 H1 v t h1 e1 R1 r1 ⟨i, q1⟩ => ⟨tyV_lst R1 r1 i, ρ1, s', h1, _, R1, R.sl e1 S, q1, fun ρ2 H2 vs ts h2 e2 R2 r2 q2 => ?_⟩⟩⟩
  exact s ρ2 h2 H2 v vs t ts Q' Q R2 (R1.rt e2 r1) r2 q2 (fin.weak (e1.trans e2))
theorem px_mt0 (slot : Slot "list" name id) (hty : typeOf (.builtin id) = pure (.type "method_descriptor")) (hm : MtX X id g) (ho : PX X o fo)
    (hbase : attributeBase o name X.env (eval o X.env) = eval o X.env := by rfl) (hline : (apos.endLine == cpos.line) = true := by rfl) : PX X (.Call (.Attribute o name apos) [] [] cpos) (wMt g fo wNil) := by
  obtain ⟨r, m, s⟩ := hm
  refine ⟨(pe_bm0 PySem.F.plainAttrs_list slot hty m ho.pe hbase hline).imp fun σ H Q ⟨ρ, s', h, Q', R, S, hw, fin⟩ => ⟨ρ, s', h, _, R, S, hw, fun ρ1 H1 v t h1 e1 R1 r1 ⟨i, q1⟩ => ⟨tyV_lst R1 r1 i, ?_⟩⟩⟩
  exact s ρ1 h1 H1 v [] t [] Q' Q R1 r1 .nil q1 (fin.weak e1)
/-- a list of ours is changed, a value handed back -/
theorem fin_put {K : PySem.W.Frag} {w : World} {ρ : List Addr} {h : Hh} {H : Hp} (R : Rel K w ρ h H) {n : Nat} {a : Addr} (hn : ρ[n]? = some a) {us : List V} (g1 : H a = some (.lst us)) {ts : List T} {vs : List V} (r : RTs K ρ H ts vs) {t : T} {v : V} (rv : RT K ρ H t v) {Q' : VKT} {Q : VK} (fin : Fin K w ρ H Q' Q)
    (q : Q' t (h.set n (.lst ts))) : Q v (upd H a (.lst vs)) := by
  have e : Ext ρ H ρ (upd H a (.lst vs)) := .put (List.mem_of_getElem? hn) fun o v z => by rw [g1] at z; cases z
  exact fin ρ _ v t _ e (R.put (o := .lst ts) hn ⟨vs, upd_same, R.rts e r⟩) (R.rt e rv) q
def gAppend : GM := fun x ts h Q => ∃ n xs y, x = .ref n ∧ ts = [y] ∧ h[n]? = some (.lst xs) ∧ xs.length < sizeLine ∧ Q .non (h.set n (.lst (xs ++ [y])))
theorem mx_append : MtX X "list.append" gAppend := ⟨_, mt_append, fun ρ h H x xs tx ts Q' Q R rx rs ⟨n, ys, y, e1, e2, hy, hz, q⟩ fin => by
  subst e1 e2
  obtain ⟨a, us, rfl, hn, g1, r1⟩ := R.lstAt rx hy
  cases rs with
  | @cons _ v _ _ rv rn =>
    cases rn
    exact ⟨a, us, v, rfl, rfl, g1, by rw [← r1.length]; exact hz, fin_put R hn g1 (r1.append (.cons rv .nil)) .non fin q⟩⟩
def gExtend : GM := fun x ts h Q => ∃ n m xs ys, x = .ref n ∧ ts = [.ref m] ∧ h[n]? = some (.lst xs) ∧ h[m]? = some (.lst ys) ∧ xs.length + ys.length ≤ sizeLine ∧ Q .non (h.set n (.lst (xs ++ ys)))
theorem mx_extend : MtX X "list.extend" gExtend := ⟨_, mt_extend, fun ρ h H x xs tx ts Q' Q R rx rs ⟨n, m, us, ys, e1, e2, hu, hy, hz, q⟩ fin => by
  subst e1 e2
  obtain ⟨a, us', rfl, hn, g1, r1⟩ := R.lstAt rx hu
  cases rs with
  | @cons _ v _ _ rv rn =>
    cases rn
    obtain ⟨b, vs', rfl, _, g2, r2⟩ := R.lstAt rv hy
    exact ⟨a, b, us', vs', rfl, rfl, g1, g2, by rw [← r1.length, ← r2.length]; exact hz, fin_put R hn g1 (r1.append r2) .non fin q⟩⟩
def gPop : GM := fun x ts h Q => ∃ n xs y, x = .ref n ∧ ts = [] ∧ h[n]? = some (.lst xs) ∧ xs[xs.length - 1]? = some y ∧ Q y (h.set n (.lst xs.dropLast))
theorem mx_pop : MtX X "list.pop" gPop := ⟨_, mt_pop, fun ρ h H x xs tx ts Q' Q R rx rs ⟨n, us, y, e1, e2, hu, hy, q⟩ fin => by
  subst e1 e2
  obtain ⟨a, us', rfl, hn, g1, r1⟩ := R.lstAt rx hu
  cases rs
  obtain ⟨v, ev, rv⟩ := r1.getT hy
  exact ⟨a, us', v, rfl, rfl, g1, by rw [← r1.length]; exact ev, fin_put R hn g1 r1.dropLast rv fin q⟩⟩
/-- the first place of a flat item -/
def gIndex : GM := fun x ts h Q => ∃ xs y j z, seqT h x = some xs ∧ isLst x h ∧ ts = [y] ∧ flatT y = true ∧ xs.all flatT = true ∧ xs[j]? = some z ∧ eqT z y = true ∧ (∀ (m : Nat) (z' : T), m < j → xs[m]? = some z' → eqT z' y = false) ∧ Q (.int (j : Nat)) h
theorem mx_index : MtX X "list.index" gIndex := ⟨_, mt_index, fun ρ h H x xs tx ts Q' Q R rx rs ⟨us, y, j, z, hu, ⟨n, _, e1, _⟩, e2, fy, fs, hz, ez, hno, q⟩ fin => by
  subst e1 e2
  cases rx with
  | @ref _ a hn =>
    obtain ⟨us', g1, r1⟩ := seq_ref R hn hu
    cases rs with
    | @cons _ v _ _ rv rn =>
      cases rn
      obtain ⟨zv, ezv, rz⟩ := r1.getT hz
      refine ⟨a, us', v, j, zv, rfl, rfl, g1, flat_of rv fy, flats_of r1 fs, ezv, ?_, fun m z' hm ez' => ?_, fin ρ H _ _ h (.refl _ _) R (.int _) q⟩
      · rw [eqV_of rz rv (List.all_eq_true.mp fs z (List.mem_of_getElem? hz)) fy]; exact ez
      · obtain ⟨zt, et, rt⟩ := r1.get ez'
        rw [eqV_of rt rv (List.all_eq_true.mp fs zt (List.mem_of_getElem? et)) fy]
        exact hno m zt hm et⟩

/-! ### built-ins -/
def gLenS : GC := fun ts h Q => ∃ x xs, ts = [x] ∧ seqT h x = some xs ∧ Q (.int xs.length) h
theorem RTs.one {K : PySem.W.Frag} {ρ : List Addr} {H : Hp} {t : T} {vs : List V} (r : RTs K ρ H [t] vs) : ∃ v, vs = [v] ∧ RT K ρ H t v := by
  cases r with
  | cons a b => cases b; exact ⟨_, rfl, a⟩
theorem RTs.two {K : PySem.W.Frag} {ρ : List Addr} {H : Hp} {t u : T} {vs : List V} (r : RTs K ρ H [t, u] vs) : ∃ v z, vs = [v, z] ∧ RT K ρ H t v ∧ RT K ρ H u z := by
  cases r with
  | cons a b =>
    obtain ⟨z, rfl, rz⟩ := RTs.one b
    exact ⟨_, z, rfl, a, rz⟩
theorem cx_lenS : CallX X (.builtin "len") gLenS := ⟨_, call_len_seq, fun ρ h H xs ts Q' Q R rs ⟨x, us, e, hu, q⟩ fin => by
  subst e
  obtain ⟨v, rfl, rv⟩ := rs.one
  obtain ⟨p, ys, rfl, hs, ry⟩ := seq_any R rv hu
  exact ⟨p, ys, rfl, hs, by rw [← ry.length]; exact fin ρ H _ _ h (.refl _ _) R (.int _) q⟩⟩
def gInt : GC := fun ts h Q => ∃ i, ts = [.int i] ∧ Q (.int i) h
theorem cx_int : CallX X (.type "int") gInt := ⟨_, call_int1, fun ρ h H xs ts Q' Q R rs ⟨i, e, q⟩ fin => by
  subst e
  obtain ⟨v, rfl, rv⟩ := rs.one
  cases rv
  exact .inl ⟨i, rfl, fin ρ H _ _ h (.refl _ _) R (.int _) q⟩⟩
def gMin2 : GC := fun ts h Q => ∃ i j, ts = [.int i, .int j] ∧ Q (.int (if j < i then j else i)) h
theorem cx_min2 (hc : X.calm = true) : CallX X (.builtin "min") gMin2 := ⟨_, call_min2 hc, fun ρ h H xs ts Q' Q R rs ⟨i, j, e, q⟩ fin => by
  subst e
  obtain ⟨v, z, rfl, rv, rz⟩ := rs.two
  cases rv; cases rz
  exact ⟨i, j, rfl, fin ρ H _ _ h (.refl _ _) R (.int _) q⟩⟩
def gMin : GC := fun ts h Q => ∃ (n : Nat) (ns : List Int), ts = [.ref n] ∧ seqT h (.ref n) = some (ns.map T.int) ∧ 0 < ns.length ∧ ∀ m, m ∈ ns → (∀ y, y ∈ ns → m ≤ y) → Q (.int m) h
theorem cx_min (hc : X.calm = true) : CallX X (.builtin "min") gMin := ⟨_, cr_min hc, fun ρ h H xs ts Q' Q R rs ⟨n, ns, e, hs, hl, q⟩ fin => by
  subst e
  obtain ⟨v, rfl, rv⟩ := rs.one
  cases rv with
  | @ref _ a hn =>
    obtain ⟨ys, h1, h2⟩ := seq_ref R hn hs
    have := RTs.ints h2
    subst this
    exact ⟨a, ns, rfl, h1, hl, fun m hm hle => fin ρ H _ _ h (.refl _ _) R (.int _) (q m hm hle)⟩⟩
def gList : GC := fun ts h Q => ∃ x xs, ts = [x] ∧ seqT h x = some xs ∧ Q (.ref h.length) (h ++ [.lst xs])
theorem cx_list : CallX X (.type "list") gList := ⟨_, call_list_of, fun ρ h H xs ts Q' Q R rs ⟨x, us, e, hu, q⟩ fin => by
  subst e
  obtain ⟨v, rfl, rv⟩ := rs.one
  obtain ⟨p, ys, rfl, hs, ry⟩ := seq_any R rv hu
  exact ⟨p, ys, rfl, hs, fun l hl => fin_lst R ry fin q hl⟩⟩
def gTuple : GC := fun ts h Q => ∃ x xs, ts = [x] ∧ seqT h x = some xs ∧ Q (.tup xs) h
theorem cx_tuple : CallX X (.type "tuple") gTuple := ⟨_, call_tuple_of, fun ρ h H xs ts Q' Q R rs ⟨x, us, e, hu, q⟩ fin => by
  subst e
  obtain ⟨v, rfl, rv⟩ := rs.one
  cases x with
  | ref n =>
    cases rv with
    | @ref _ a hn =>
      obtain ⟨ys, h1, h2⟩ := seq_ref R hn hu
      exact ⟨a, ys, rfl, .inl ⟨h1, fun l hl => fin_tup R h2 fin q hl⟩⟩
  | tup l =>
    cases hu
    cases rv with
    | @tup _ a ys ht hr => exact ⟨a, ys, rfl, .inr ⟨ht.sq, fin ρ H _ _ h (.refl _ _) R (.tup ht hr) q⟩⟩
  | non => cases hu
  | bl _ => cases hu
  | int _ => cases hu
  | str _ => cases hu
  | kls ns =>
    cases hu
    cases rv with
    | @kls _ a hk => exact ⟨a, _, rfl, .inl ⟨.inr hk, fun l hl => fin_tup R (RTs.of_ints ns) fin q hl⟩⟩⟩
/-- o[i] = v of a list -/
def gSetL : GS := fun o i v h Q => ∃ n xs k j, o = .ref n ∧ i = .int k ∧ h[n]? = some (.lst xs) ∧ ixN xs.length k = some j ∧ Q (h.set n (.lst (xs.set j v)))
theorem sx_list : SetX X gSetL := ⟨_, set_list, fun ρ h H o i v to ti tv Q' Q R ro ri rv ⟨n, xs, k, j, e1, e2, hx, hj, q⟩ fin => by
  subst e1 e2
  cases ri
  obtain ⟨a, us, rfl, hn, g1, r1⟩ := R.lstAt ro hx
  refine ⟨a, us, k, j, rfl, rfl, g1, by rw [← r1.length]; exact hj, ?_⟩
  have e : Ext ρ H ρ (upd H a (.lst (us.set j v))) := .put (List.mem_of_getElem? hn) fun o v z => by rw [g1] at z; cases z
  exact fin ρ _ _ e (R.put (o := .lst (xs.set j tv)) hn ⟨_, upd_same, R.rts e (r1.set j rv)⟩) q⟩

/-! ### isinstance(x, T) -/
def kindO : Option O → Option String
  | some (.lst _) | some (.rol _) => some "list"
  | some (.dict _) | some (.frd _) => some "dict"
  | none => none
def kindT (h : Hh) : T → Option String
  | .non => some "NoneType"
  | .bl _ => some "bool"
  | .int _ => some "int"
  | .str _ => some "str"
  | .tup _ => some "tuple"
  | .ref n => kindO h[n]?
  | .kls _ => none
/-- a value's type, with the dicts of ours -/
inductive TyD (K : PySem.W.Frag) (H : Hp) : V → Value → Prop where
  | base {x : V} {t : Value} (h : TyX K H x t) : TyD K H x t
  | dict {a : Addr} {es : List DictEntry} (e : H a = some (.ext (rawD a es))) : TyD K H (.ref a) (.type "dict")
  | frd {a : Addr} {ob : Obj} {es : List DictEntry} (e : H a = some (.frz ob (.ext (rawD a es)))) : TyD K H (.ref a) (.type "dict")
theorem tyd_of {K : PySem.W.Frag} {w : World} {ρ : List Addr} {h : Hh} {H : Hp} (R : Rel K w ρ h H) {x : T} {v : V} {k : String} (r : RT K ρ H x v) (e : kindT h x = some k) : TyD K H v (.type k) := by
  cases x with
  | non => cases r; cases e; exact .base (.base .non)
  | bl b => cases r; cases e; exact .base (.base (.bl b))
  | int i => cases r; cases e; exact .base (.base (.int i))
  | str i => cases r; cases e; exact .base (.base (.str i))
  | kls _ => cases e
  | tup l =>
    cases r with
    | @tup _ a ys ht hr =>
      cases e
      rcases ht with ht | ⟨o, its, n, hk, hc, _⟩
      · exact .base (.base (.tup ht))
      · exact .base (.kTuple hk hc)
  | ref n =>
    cases r with
    | @ref _ a hn =>
      change kindO h[n]? = some k at e
      cases ho : h[n]? with
      | none => rw [ho] at e; cases e
      | some o =>
        have oR := R.obj n o a ho hn
        rw [ho] at e
        cases o with
        | lst xs => cases e; obtain ⟨ys, h1, _⟩ := oR; exact .base (.base (.lst h1))
        | rol xs => cases e; obtain ⟨ob, ys, h1, _⟩ := oR; exact .base (.base (.frz h1))
        | dict kvs => cases e; obtain ⟨_, es, h1, _⟩ := oR; exact .dict h1
        | frd kvs => cases e; obtain ⟨_, ob, es, h1, _⟩ := oR; exact .frd h1
theorem kit_ofD {pins : List (Addr × Obj)} {σ : L2.St} {H : Hp} {s : Shared} {x : V} {u t : Value} (I : Inv X pins σ H s) (rx : RelV x u) (ty : TyD X.K H x t) : ∃ P : Heap → Prop, PySem.W.KitX X.K u t P ∧ P s.heap ∧ u ≠ .builtin "__main__.__loader__#opaque" := by
  cases ty with
  | base b => exact kit_of I rx b
  | @dict a es e =>
    cases (show u = Value.ref a from rx)
    obtain ⟨⟨o, ep, h1, h2, _⟩, _⟩ := (show ObjOk X.prog X.w H s.heap a (.ext (rawD a es)) from I.hok a _ e)
    exact ⟨_, PySem.W.kitx_dict, ⟨o, h1, h2.1⟩, fun z => nomatch z⟩
  | @frd a ob es e =>
    cases (show u = Value.ref a from rx)
    obtain ⟨_, ⟨o, ep, h1, h2, _⟩, _⟩ := (show ObjOk X.prog X.w H s.heap a (.frz ob (.ext (rawD a es))) from I.hok a _ e)
    exact ⟨_, PySem.W.kitx_dict, ⟨o, h1, h2.1⟩, fun z => nomatch z⟩
def rIsiD (K : PySem.W.Frag) : List V → Hp → VK → Prop := fun xs H Q => ∃ (x : V) (n k : String) (b : Bool), xs = [x, .ty n] ∧ TyD K H x (.type k) ∧ kitB k n = some b ∧ Q (.bl b) H
theorem call_isiD : CallR X (.builtin "isinstance") (rIsiD X.K) := by
  intro pins s σ H xs us Q I r h
  obtain ⟨x, n, k, b, rfl, ty, e, q⟩ := h
  obtain ⟨u1, u2, rfl, r1, r2⟩ := vals2 r
  cases (show u2 = Value.type n from r2)
  obtain ⟨P, Z, p, hx⟩ := kit_ofD I r1 ty
  exact PySem.W.kia_one Z I.kIn p (kit_ty e) hx fun tk => ⟨.bl b, H, I.tok tk, rfl, q⟩
def wIsi (n : String) (fe : WE) : WE := fun s h Q => fe s h fun x h1 => ∃ k b, kindT h1 x = some k ∧ kitB k n = some b ∧ Q (.bl b) h1
theorem px_isi {e : Expr} {fe : WE} {n : String} {xn : Str} {p pn pos : Pos} (hg : Gl X "isinstance") (hm : X.mg "isinstance" = none) (he : PX X e fe) (hgn : Gl X xn) (hmn : X.mg xn = none) (hvn : bootBuiltins xn = some (.type n)) (hv : bootBuiltins "isinstance" = some (.builtin "isinstance"))
    (hn : xn ≠ "__name__" := by decide) (hdb : (xn == ("__debug__" : Str)) = false := by decide)
    (h1 : starEach (e :: [.Name xn pn]) X.env = (false, eval e X.env) :: starEach [.Name xn pn] X.env := by rfl) (h2 : starEach (.Name xn pn :: []) X.env = (false, eval (.Name xn pn) X.env) :: starEach [] X.env := by rfl)
    (hpl : (backTo pos (starEach [.Name xn pn] X.env)).any (·.1) = false := by rfl) : PX X (.Call (.Name "isinstance" p) [e, .Name xn pn] [] pos) (wIsi n fe) := by
  refine ⟨(pe_callB call_isiD hg hm hv (pa_cons he.pe (pa_cons (pe_bltn (v := .ty n) hgn hmn hvn rfl hn hdb) pa_nil h2) h1) (he := h1) (hpl := hpl)).imp fun σ H Q ⟨ρ, s, h, Q', R, S, hw, fin⟩ => ⟨ρ, s, h, _, R, S, hw, fun ρ1 H1 v t h1 e1 R1 r1 ⟨k, b, ek, eb, q1⟩ => ?_⟩⟩
  exact ⟨v, n, k, b, rfl, tyd_of R1 r1 ek, eb, fin ρ1 H1 _ _ h1 e1 R1 (.bl b) q1⟩
end
end Tr

/-! Dicts over trees: keys all tuples, or all flat. -/
namespace Tr
open PySem PySem.Spec L2

def leafOf : T → Leaf
  | .bl b => .num (if b = true then 1 else 0)
  | .int i => .num i
  | .str x => .text x
  | _ => .none
theorem leaf_key {t : T} (p : pureT t = true) (n : isTup t = false) : (leafOf t).key = kq t := by
  cases t <;> first | rfl | cases p | cases n
theorem leaf_is {K : PySem.W.Frag} {ρ : List Addr} {H : Hp} {t : T} {v : V} {u : Value} (r : RT K ρ H t v) (q : RelV v u) (n : isTup t = false) (p : pureT t = true) : Leaf.isOf (leafOf t) u = true := by
  cases r with
  | non => cases q; rfl
  | bl b => cases q; show decide _ = true; simp
  | int i => obtain ⟨t, rfl⟩ := q; show decide _ = true; simp
  | str x => obtain ⟨t, rfl⟩ := q; show Value.isStrOf x (.str x t) = true; simp [Value.isStrOf]
  | tup _ _ => cases n
  | kls _ => cases p
  | ref _ => cases p
/-- the value of a flat key tells a tree -/
theorem leaf_val {K : PySem.W.Frag} {ρ : List Addr} {H : Hp} {l : Leaf} {u : Value} (e : Leaf.isOf l u = true) : ∃ t v, kq t = l.key ∧ pureT t = true ∧ isTup t = false ∧ RT K ρ H t v ∧ RelV v u := by
  cases l with
  | none => cases u <;> first | exact ⟨.non, .non, rfl, rfl, rfl, .non, rfl⟩ | exact absurd e Bool.false_ne_true
  | num i =>
    cases u with
    | int j t =>
      have e' : j = i := of_decide_eq_true e
      subst e'
      exact ⟨.int j, .int j, rfl, rfl, rfl, .int j, ⟨t, rfl⟩⟩
    | bool b =>
      have e' : (if b = true then (1 : Int) else 0) = i := of_decide_eq_true e
      subst e'
      exact ⟨.bl b, .bl b, rfl, rfl, rfl, .bl b, rfl⟩
    | _ => exact absurd e Bool.false_ne_true
  | text x =>
    obtain ⟨t, rfl⟩ := Value.isStrOf_shape (show Value.isStrOf x u = true from e)
    exact ⟨.str x, .str x, rfl, rfl, rfl, .str x, ⟨t, rfl⟩⟩

section
variable {X : Cx} {pins : List (Addr × Obj)} {σ : L2.St} {H : Hp} {s : Shared} {ρ : List Addr}
mutual
theorem nis (I : Inv X pins σ H s) : ∀ (t : T) (v : V) (u : Value), RT X.K ρ H t v → RelV v u → pureT t = true → NestedIs s.heap (kq t) u
  | .non, _, _, r, q, _ => by cases r; cases q; exact .none
  | .bl b, _, _, r, q, _ => by cases r; cases q; exact .bool rfl
  | .int i, _, _, r, q, _ => by cases r; obtain ⟨t, rfl⟩ := q; exact .int i t
  | .str x, _, _, r, q, _ => by cases r; obtain ⟨t, rfl⟩ := q; exact .text x t
  | .ref _, _, _, _, _, p => by cases p
  | .kls _, _, _, _, _, p => by cases p
  | .tup l, _, _, r, q, p => by
    cases r with
    | @tup _ a ys ht hr =>
      cases q
      obtain ⟨its, rv, ⟨o, e, c, n, d⟩, _⟩ := I.tuple ht.sq
      exact .tup e c d (nisA I l ys its hr rv p)
theorem nisA (I : Inv X pins σ H s) : ∀ (l : List T) (vs : List V) (us : List Value), RTs X.K ρ H l vs → Vals vs us → pureTs l = true → NestedAll s.heap (kqs l) us
  | [], _, _, r, q, _ => by cases r; cases q; exact .nil
  | t :: l, _, _, r, q, p => by
    cases r with
    | cons r1 r2 =>
      cases q with
      | cons q1 q2 =>
        have p' : (pureT t && pureTs l) = true := p
        rw [Bool.and_eq_true] at p'
        exact .cons (nis I t _ _ r1 q1 p'.1) (nisA I l _ _ r2 q2 p'.2)
end
theorem okKey_pure {t : T} (h : okKey t = true) : pureT t = true := by unfold okKey at h; rw [Bool.and_eq_true] at h; exact h.1
theorem okKey_deep {t : T} (h : okKey t = true) : (kq t).depth ≤ 8 := by unfold okKey at h; rw [Bool.and_eq_true] at h; exact of_decide_eq_true h.2

/-! ### the two kinds of dicts -/
def VRel (K : PySem.W.Frag) (ρ : List Addr) (H : Hp) (t : T) (u : Value) : Prop := ∃ v, RT K ρ H t v ∧ RelV v u
abbrev LP (K : PySem.W.Frag) (ρ : List Addr) (H : Hp) : List (T × T) → List (Leaf × Value) → Prop := Paired fun p q => q.1 = leafOf p.1 ∧ VRel K ρ H p.2 q.2
abbrev TPp (K : PySem.W.Frag) (ρ : List Addr) (H : Hp) : List (T × T) → List (NestedKey × Addr × Value) → Prop := Paired fun p x => x.1 = kq p.1 ∧ RT K ρ H p.1 (.ref x.2.1) ∧ VRel K ρ H p.2 x.2.2
theorem leaf_pairs {P : Program} {w : World} {K : PySem.W.Frag} : ∀ {kvs : List (T × T)} {es : List DictEntry}, Paired (ERel K w ρ H) kvs es → (∀ p ∈ kvs, isTup p.1 = false) →
    ∃ vs, Pairs (leafKind P w) es vs ∧ LP K ρ H kvs vs ∧ ∀ e ∈ es, ∃ k, (leafKind P w).is k e.key = true ∧ e.hash = (leafKind P w).hash k
  | _, _, .nil, _ => ⟨[], .nil, .nil, fun e he => nomatch he⟩
  | p :: kvs, e :: es, .cons h t, hn => by
    obtain ⟨vs, a, b, c⟩ := leaf_pairs t fun q hq => hn q (List.mem_cons_of_mem _ hq)
    obtain ⟨h1, h2, ⟨t', v, a1, a2, a3, _, r, q⟩, x⟩ := h
    have n1 := hn p List.mem_cons_self
    have n2 : isTup t' = false := by rw [a3]; exact n1
    have pk := okKey_pure h1
    have eqL : leafOf t' = leafOf p.1 := Leaf.key_inj (by rw [leaf_key a2 n2, leaf_key pk n1, a1])
    have is : Leaf.isOf (leafOf p.1) e.key = true := by rw [← eqL]; exact leaf_is r q n2 a2
    refine ⟨(leafOf p.1, e.val) :: vs, .cons is rfl a, .cons ⟨rfl, x⟩ b, fun e' he => ?_⟩
    rcases List.mem_cons.mp he with z | z
    · subst z
      refine ⟨leafOf p.1, is, ?_⟩
      rw [h2]
      show _ = (leafOf p.1).key.hash w
      rw [leaf_key pk n1]
    · exact c e' z
theorem leaf_nodup {kvs : List (T × T)} (hp : ∀ p ∈ kvs, pureT p.1 = true ∧ isTup p.1 = false) : (kvs.map fun p => kq p.1).Nodup ↔ (kvs.map fun p => leafOf p.1).Nodup := by
  have e : (kvs.map fun p => kq p.1) = (kvs.map fun p => leafOf p.1).map Leaf.key := by
    rw [List.map_map]
    exact List.map_congr_left fun p h => (leaf_key (hp p h).1 (hp p h).2).symm
  rw [e]
  constructor
  · intro h; exact List.Pairwise.of_map _ (fun a b h z => h (by rw [z])) h
  · intro h; exact List.Pairwise.map _ (fun a b h z => h (Leaf.key_inj z)) h
theorem LP.fsts {K : PySem.W.Frag} {kvs : List (T × T)} {vs : List (Leaf × Value)} (r : LP K ρ H kvs vs) : (kvs.map fun p => leafOf p.1) = vs.map (·.1) := by
  induction r with
  | nil => rfl
  | cons h t ih => rw [List.map_cons, List.map_cons, ih, h.1]
theorem ERel.ok {K : PySem.W.Frag} {w : World} : ∀ {kvs : List (T × T)} {es : List DictEntry}, Paired (ERel K w ρ H) kvs es → ∀ p ∈ kvs, okKey p.1 = true
  | _, _, .nil, p, hp => nomatch hp
  | q :: kvs, _, .cons h t, p, hp => by
    rcases List.mem_cons.mp hp with z | z
    · subst z; exact h.1
    · exact ERel.ok t p z
/-- the raw dict that stands at a, locked or not -/
def RawAt (H : Hp) (a : Addr) (es : List DictEntry) : Prop := H a = some (.ext (rawD a es)) ∨ ∃ ob, H a = some (.frz ob (.ext (rawD a es)))
theorem RawAt.raw {a : Addr} {es : List DictEntry} (I : Inv X pins σ H s) (h : RawAt H a es) : rawD a es s.heap := by
  rcases h with e | ⟨ob, e⟩
  · exact (show ObjOk X.prog X.w H s.heap a (.ext (rawD a es)) from I.hok a _ e).1
  · obtain ⟨_, q⟩ := (show ObjOk X.prog X.w H s.heap a (.frz ob (.ext (rawD a es))) from I.hok a _ e)
    exact q.1
theorem leaf_dict {a : Addr} {kvs : List (T × T)} {es : List DictEntry} (I : Inv X pins σ H s) (h : RawAt H a es) (d : DRel X.K X.w ρ H kvs es) (hn : ∀ p ∈ kvs, isTup p.1 = false) : ∃ vs, s.heap.DictOf (leafKind X.prog X.w) a vs ∧ LP X.K ρ H kvs vs := by
  obtain ⟨o, ep, e1, e2, e3⟩ := h.raw I
  obtain ⟨vs, p1, p2, p3⟩ := leaf_pairs (P := X.prog) d.en hn
  refine ⟨vs, ⟨o, es.toArray, ep, e1, e2, e3, fun e he => p3 e (by simpa using he), by simpa using p1, ?_⟩, p2⟩
  rw [← p2.fsts]
  exact (leaf_nodup fun p hp => ⟨okKey_pure (ERel.ok d.en p hp), hn p hp⟩).mp d.nd
theorem tup_pairs {P : Program} {w : World} {K : PySem.W.Frag} : ∀ {kvs : List (T × T)} {es : List DictEntry}, Paired (ERel K w ρ H) kvs es → (∀ p ∈ kvs, isTup p.1 = true) → ∃ xs, es = xs.map (entryOfKey (nestedKind P w)) ∧ TPp K ρ H kvs xs
  | _, _, .nil, _ => ⟨[], rfl, .nil⟩
  | p :: kvs, e :: es, .cons h t, hn => by
    obtain ⟨xs, a, b⟩ := tup_pairs (P := P) t fun q hq => hn q (List.mem_cons_of_mem _ hq)
    obtain ⟨h1, h2, ⟨t', v, a1, a2, a3, a4, r, q⟩, x⟩ := h
    have n1 := hn p List.mem_cons_self
    obtain rfl := a4 n1
    obtain ⟨k, kv⟩ := p
    cases k with
    | tup l =>
      cases r with
      | @tup _ c ys ht hr =>
        have qe : e.key = Value.ref c := q
        refine ⟨(kq (.tup l), c, e.val) :: xs, ?_, .cons ⟨rfl, .tup ht hr, x⟩ b⟩
        rw [List.map_cons, a]
        congr 1
        obtain ⟨eh, ek, ev⟩ := e
        simp only at h2 qe
        subst h2 qe
        rfl
    | _ => cases n1
theorem tup_dict {a : Addr} {kvs : List (T × T)} {es : List DictEntry} (I : Inv X pins σ H s) (h : RawAt H a es) (d : DRel X.K X.w ρ H kvs es) (hn : ∀ p ∈ kvs, isTup p.1 = true) : ∃ xs, s.heap.DictOfH (nestedKind X.prog X.w) a xs ∧ TPp X.K ρ H kvs xs := by
  obtain ⟨o, ep, e1, e2, e3⟩ := h.raw I
  obtain ⟨xs, p1, p2⟩ := tup_pairs (P := X.prog) d.en hn
  have ok := ERel.ok d.en
  have nd := d.nd
  have all : ∀ {kvs : List (T × T)} {xs : List (NestedKey × Addr × Value)}, TPp X.K ρ H kvs xs → (∀ p ∈ kvs, okKey p.1 = true) → (∀ x ∈ xs, (nestedKind X.prog X.w).is s.heap x.1 x.2.1) ∧ (kvs.map fun p => kq p.1) = xs.map (·.1) := by
    intro kvs xs r
    induction r with
    | nil => intro _; exact ⟨fun x hx => (nomatch hx), rfl⟩
    | @cons p x ps xs h t ih =>
      intro ok
      obtain ⟨i1, i2⟩ := ih fun q hq => ok q (List.mem_cons_of_mem _ hq)
      have o1 := ok p List.mem_cons_self
      refine ⟨fun y hy => ?_, by rw [List.map_cons, List.map_cons, i2, h.1]⟩
      rcases List.mem_cons.mp hy with z | z
      · subst z
        rw [h.1]
        exact ⟨nis I p.1 _ (.ref y.2.1) h.2.1 rfl (okKey_pure o1), okKey_deep o1⟩
      · exact i1 y z
  obtain ⟨q1, q2⟩ := all p2 ok
  exact ⟨xs, ⟨o, es.toArray, ep, e1, e2, e3, by simpa using p1, q1, by rw [← q2]; exact nd⟩, p2⟩

/-! ### what is found -/
theorem LP.find {K : PySem.W.Frag} {k : T} (pk : pureT k = true) (nk : isTup k = false) : ∀ {kvs : List (T × T)} {vs : List (Leaf × Value)}, LP K ρ H kvs vs → (∀ p ∈ kvs, pureT p.1 = true ∧ isTup p.1 = false) →
    (∀ t, dget kvs k = some t → ∃ u, valueAt vs (leafOf k) = some u ∧ VRel K ρ H t u) ∧ (dget kvs k).isSome = (valueAt vs (leafOf k)).isSome
  | _, _, .nil, _ => ⟨fun t e => (nomatch e), rfl⟩
  | p :: kvs, q :: vs, .cons h t, hp => by
    have p1 := hp p List.mem_cons_self
    have ih := LP.find pk nk t fun z hz => hp z (List.mem_cons_of_mem _ hz)
    have iff : (kq p.1 = kq k) ↔ q.1 = leafOf k := by
      rw [h.1]
      constructor
      · intro e; exact Leaf.key_inj (by rw [leaf_key p1.1 p1.2, leaf_key pk nk, e])
      · intro e; rw [← leaf_key p1.1 p1.2, ← leaf_key pk nk, e]
    unfold dget valueAt at ih ⊢
    rw [List.find?_cons, List.find?_cons]
    by_cases e : kq p.1 = kq k
    · rw [decide_eq_true e, decide_eq_true (iff.mp e)]
      refine ⟨fun t e' => ?_, rfl⟩
      cases e'
      exact ⟨q.2, rfl, h.2⟩
    · rw [decide_eq_false e, decide_eq_false (fun z => e (iff.mpr z))]
      exact ih
theorem TPp.find {K : PySem.W.Frag} {k : T} : ∀ {kvs : List (T × T)} {xs : List (NestedKey × Addr × Value)}, TPp K ρ H kvs xs → (∀ t, dget kvs k = some t → ∃ p, atKey xs (kq k) = some p ∧ VRel K ρ H t p.2) ∧ (dget kvs k).isSome = (atKey xs (kq k)).isSome
  | _, _, .nil => ⟨fun t e => (nomatch e), rfl⟩
  | p :: kvs, x :: xs, .cons h t => by
    have ih := TPp.find (k := k) t
    unfold dget atKey at ih ⊢
    rw [List.find?_cons, List.find?_cons]
    by_cases e : kq p.1 = kq k
    · rw [decide_eq_true e, decide_eq_true (h.1.trans e)]
      refine ⟨fun t e' => ?_, rfl⟩
      cases e'
      exact ⟨x.2, rfl, h.2.2⟩
    · rw [decide_eq_false e, decide_eq_false (fun z => e (h.1.symm.trans z))]
      exact ih
/-- the keys are of the kind of k -/
def sameKind (kvs : List (T × T)) (k : T) : Prop := ∀ p ∈ kvs, isTup p.1 = isTup k
theorem room_key (hu : X.A.units + 64 < cLine) : (nestedKind X.prog X.w).room X.A.in1 := by
  show X.A.units + 1 + 8 < cLine
  omega
variable {a : Addr} {kvs : List (T × T)} {es : List DictEntry} {k : T} {kv : V} {u : Value} {A : Around} {E : Value → Shared → Prop}
theorem dt_get {Q : Value → Shared → Prop} (hu : X.A.units + 64 < cLine) (I : Inv X pins σ H s) (h : RawAt H a es) (d : DRel X.K X.w ρ H kvs es) (ok : okKey k = true) (sk : sameKind kvs k) (rk : RT X.K ρ H k kv) (ru : RelV kv u) {t : T} (e : dget kvs k = some t)
    (hq : ∀ y s', Inv X pins σ H s' → VRel X.K ρ H t y → Q y s') : wpAny (model X.prog X.w) X.A (getItem (.ref a) u) Q E s := by
  cases hk : isTup k with
  | false =>
    obtain ⟨vs, dd, lp⟩ := leaf_dict I h d fun p hp => (sk p hp).trans hk
    obtain ⟨y, ey, vy⟩ := (LP.find (okKey_pure ok) hk lp fun p hp => ⟨okKey_pure (ERel.ok d.en p hp), (sk p hp).trans hk⟩).1 t e
    exact wpAny_getItem_of (leaf_is rk ru hk (okKey_pure ok)) dd.mapOf ey (hq y _ (I.tok _) vy)
  | true =>
    obtain ⟨xs, dd, tp⟩ := tup_dict I h d fun p hp => (sk p hp).trans hk
    obtain ⟨y, ey, vy⟩ := (TPp.find tp).1 t e
    cases rk with
    | @tup l c ys ht hr =>
      cases (show u = Value.ref c from ru)
      exact wpAny_getItem_heap (knd := nestedKind X.prog X.w) (room_key hu) ⟨nis I (.tup l) _ _ (.tup ht hr) rfl (okKey_pure ok), okKey_deep ok⟩ dd ey (hq _ _ (I.tok _) vy)
    | _ => cases hk
theorem dt_in {Q : Value → Shared → Prop} (hu : X.A.units + 64 < cLine) (hs : (a == sysModules) = false) (I : Inv X pins σ H s) (h : RawAt H a es) (d : DRel X.K X.w ρ H kvs es) (ok : okKey k = true) (sk : sameKind kvs k) (rk : RT X.K ρ H k kv) (ru : RelV kv u)
    (hq : ∀ s', Inv X pins σ H s' → Q (.bool (dget kvs k).isSome) s') : wpAny (model X.prog X.w) X.A (compareOp .In u (.ref a)) Q E s := by
  cases hk : isTup k with
  | false =>
    obtain ⟨vs, dd, lp⟩ := leaf_dict I h d fun p hp => (sk p hp).trans hk
    have ef := (LP.find (okKey_pure ok) hk lp fun p hp => ⟨okKey_pure (ERel.ok d.en p hp), (sk p hp).trans hk⟩).2
    refine wpAny_in_of (leaf_is rk ru hk (okKey_pure ok)) hs dd.mapOf ?_
    rw [← ef]
    exact hq _ (I.tok _)
  | true =>
    obtain ⟨xs, dd, tp⟩ := tup_dict I h d fun p hp => (sk p hp).trans hk
    have ef := (TPp.find (k := k) tp).2
    cases rk with
    | @tup l c ys ht hr =>
      cases (show u = Value.ref c from ru)
      refine wpAny_in_heap (knd := nestedKind X.prog X.w) (room_key hu) ⟨nis I (.tup l) _ _ (.tup ht hr) rfl (okKey_pure ok), okKey_deep ok⟩ hs dd ?_
      rw [← ef]
      exact hq _ (I.tok _)
    | _ => cases hk
theorem dt_notIn {Q : Value → Shared → Prop} (hu : X.A.units + 64 < cLine) (hs : (a == sysModules) = false) (I : Inv X pins σ H s) (h : RawAt H a es) (d : DRel X.K X.w ρ H kvs es) (ok : okKey k = true) (sk : sameKind kvs k) (rk : RT X.K ρ H k kv) (ru : RelV kv u)
    (hq : ∀ s', Inv X pins σ H s' → Q (.bool (!(dget kvs k).isSome)) s') : wpAny (model X.prog X.w) X.A (compareOp .NotIn u (.ref a)) Q E s := by
  cases hk : isTup k with
  | false =>
    obtain ⟨vs, dd, lp⟩ := leaf_dict I h d fun p hp => (sk p hp).trans hk
    have ef := (LP.find (okKey_pure ok) hk lp fun p hp => ⟨okKey_pure (ERel.ok d.en p hp), (sk p hp).trans hk⟩).2
    refine wpAny_notIn_of (leaf_is rk ru hk (okKey_pure ok)) hs dd.mapOf ?_
    rw [← ef]
    exact hq _ (I.tok _)
  | true =>
    obtain ⟨xs, dd, tp⟩ := tup_dict I h d fun p hp => (sk p hp).trans hk
    have ef := (TPp.find (k := k) tp).2
    cases rk with
    | @tup l c ys ht hr =>
      cases (show u = Value.ref c from ru)
      refine PyProof.Rows.wpAny_notIn_heap (knd := nestedKind X.prog X.w) (room_key hu) ⟨nis I (.tup l) _ _ (.tup ht hr) rfl (okKey_pure ok), okKey_deep ok⟩ hs dd ?_
      rw [← ef]
      exact hq _ (I.tok _)
    | _ => cases hk

/-! ### d[k] = v -/
theorem dput_length (kvs : List (T × T)) (k v : T) : (dput kvs k v).length ≤ kvs.length + 1 := by
  unfold dput
  split
  · rw [List.length_map]; omega
  · rw [List.length_append]; simp
theorem dput_keys {kvs : List (T × T)} {k v : T} : ∀ p ∈ dput kvs k v, (∃ q ∈ kvs, q.1 = p.1) ∨ p.1 = k := by
  intro p hp
  unfold dput at hp
  split at hp
  · obtain ⟨q, hq, e⟩ := List.mem_map.mp hp
    refine .inl ⟨q, hq, ?_⟩
    split at e <;> (subst e; rfl)
  · rcases List.mem_append.mp hp with z | z
    · exact .inl ⟨p, z, rfl⟩
    · have : p = (k, v) := by simpa using z
      subst this
      exact .inr rfl
theorem LP.any {K : PySem.W.Frag} (pk : pureT k = true) (nk : isTup k = false) : ∀ {kvs : List (T × T)} {vs : List (Leaf × Value)}, LP K ρ H kvs vs → (∀ p ∈ kvs, pureT p.1 = true ∧ isTup p.1 = false) →
    (kvs.any fun p => decide (kq p.1 = kq k)) = vs.any fun q => decide (q.1 = leafOf k)
  | _, _, .nil, _ => rfl
  | p :: kvs, q :: vs, .cons h t, hp => by
    have p1 := hp p List.mem_cons_self
    rw [List.any_cons, List.any_cons, LP.any pk nk t fun z hz => hp z (List.mem_cons_of_mem _ hz)]
    congr 1
    rw [h.1]
    have iff : (kq p.1 = kq k) ↔ leafOf p.1 = leafOf k := by
      constructor
      · intro e; exact Leaf.key_inj (by rw [leaf_key p1.1 p1.2, leaf_key pk nk, e])
      · intro e; rw [← leaf_key p1.1 p1.2, ← leaf_key pk nk, e]
    exact decide_eq_decide.mpr iff
theorem LP.put {K : PySem.W.Frag} (pk : pureT k = true) (nk : isTup k = false) {t : T} {y : Value} (vy : VRel K ρ H t y) {kvs : List (T × T)} {vs : List (Leaf × Value)} (r : LP K ρ H kvs vs) (hp : ∀ p ∈ kvs, pureT p.1 = true ∧ isTup p.1 = false) :
    LP K ρ H (dput kvs k t) (stored vs (leafOf k) y) := by
  have an := LP.any pk nk r hp
  have rep : ∀ {kvs : List (T × T)} {vs : List (Leaf × Value)}, LP K ρ H kvs vs → (∀ p ∈ kvs, pureT p.1 = true ∧ isTup p.1 = false) → LP K ρ H (kvs.map fun p => if kq p.1 = kq k then (p.1, t) else p) (vs.map fun q => if q.1 = leafOf k then (q.1, y) else q) := by
    intro kvs vs r
    induction r with
    | nil => intro _; exact .nil
    | @cons p q ps qs h t' ih =>
      intro hp
      have p1 := hp p List.mem_cons_self
      have iff : (kq p.1 = kq k) ↔ q.1 = leafOf k := by
        rw [h.1]
        constructor
        · intro e; exact Leaf.key_inj (by rw [leaf_key p1.1 p1.2, leaf_key pk nk, e])
        · intro e; rw [← leaf_key p1.1 p1.2, ← leaf_key pk nk, e]
      refine .cons ?_ (ih fun z hz => hp z (List.mem_cons_of_mem _ hz))
      dsimp only
      by_cases e : kq p.1 = kq k
      · rw [if_pos e, if_pos (iff.mp e)]; exact ⟨h.1, vy⟩
      · rw [if_neg e, if_neg (fun z => e (iff.mpr z))]; exact h
  unfold dput stored
  rw [an]
  split
  · exact rep r hp
  · exact Paired.snoc r ⟨rfl, vy⟩
theorem TPp.any {K : PySem.W.Frag} : ∀ {kvs : List (T × T)} {xs : List (NestedKey × Addr × Value)}, TPp K ρ H kvs xs → (kvs.any fun p => decide (kq p.1 = kq k)) = (atKey xs (kq k)).isSome
  | _, _, .nil => rfl
  | p :: kvs, x :: xs, .cons h t => by
    have ih := TPp.any t
    rw [List.any_cons, ih]
    unfold atKey
    rw [List.find?_cons]
    by_cases e : kq p.1 = kq k
    · rw [decide_eq_true e, decide_eq_true (h.1.trans e)]; rfl
    · rw [decide_eq_false e, decide_eq_false (fun z => e (h.1.symm.trans z))]; rfl
theorem TPp.put {K : PySem.W.Frag} {c : Addr} (rk : RT K ρ H k (.ref c)) {t : T} {y : Value} (vy : VRel K ρ H t y) {kvs : List (T × T)} {xs : List (NestedKey × Addr × Value)} (r : TPp K ρ H kvs xs) :
    TPp K ρ H (dput kvs k t) (storedH xs (kq k) c y) := by
  have an := TPp.any (k := k) r
  have rep : ∀ {kvs : List (T × T)} {xs : List (NestedKey × Addr × Value)}, TPp K ρ H kvs xs → TPp K ρ H (kvs.map fun p => if kq p.1 = kq k then (p.1, t) else p) (xs.map (putAt (kq k) y)) := by
    intro kvs xs r
    induction r with
    | nil => exact .nil
    | @cons p x ps xs h t' ih =>
      refine .cons ?_ ih
      unfold putAt
      dsimp only
      by_cases e : kq p.1 = kq k
      · rw [if_pos e, if_pos (h.1.trans e)]; exact ⟨h.1, h.2.1, vy⟩
      · rw [if_neg e, if_neg (fun z => e (h.1.symm.trans z))]; exact h
  unfold dput storedH
  rw [an]
  split
  · exact rep r
  · exact Paired.snoc r ⟨rfl, rk, vy⟩
/-- what stands behind a store, from the flat kind -/
theorem drel_leaf {P : Program} {w : World} {K : PySem.W.Frag} : ∀ {kvs : List (T × T)} {vs : List (Leaf × Value)} {es : List DictEntry}, LP K ρ H kvs vs → Pairs (leafKind P w) es vs → (∀ e ∈ es, ∃ k, (leafKind P w).is k e.key = true ∧ e.hash = (leafKind P w).hash k) →
    (∀ p ∈ kvs, okKey p.1 = true ∧ isTup p.1 = false) → Paired (ERel K w ρ H) kvs es
  | _, _, _, .nil, .nil, _, _ => .nil
  | p :: kvs, q :: vs, e :: es, .cons h t, .cons h1 h2 pt, hk, hp => by
    have ih := drel_leaf t pt (fun e he => hk e (List.mem_cons_of_mem _ he)) fun p hp' => hp p (List.mem_cons_of_mem _ hp')
    obtain ⟨ok, nt⟩ := hp p List.mem_cons_self
    obtain ⟨l, i1, i2⟩ := hk e List.mem_cons_self
    have el : l = q.1 := (leafKind P w).inj _ _ _ i1 h1
    have i3 : Leaf.isOf (leafOf p.1) e.key = true := by rw [← h.1]; exact h1
    obtain ⟨t', v, b1, b2, b3, b4, b5⟩ := leaf_val (K := K) (ρ := ρ) (H := H) i3
    have kk := leaf_key (okKey_pure ok) nt
    refine .cons ⟨ok, ?_, ⟨t', v, by rw [b1, kk], b2, by rw [b3, nt], (fun z => by rw [nt] at z; cases z), b4, b5⟩, by rw [h2]; exact h.2⟩ ih
    rw [i2, el, h.1]
    show (leafOf p.1).key.hash w = _
    rw [kk]
theorem drel_tup {P : Program} {w : World} {K : PySem.W.Frag} : ∀ {kvs : List (T × T)} {xs : List (NestedKey × Addr × Value)}, TPp K ρ H kvs xs → (∀ p ∈ kvs, okKey p.1 = true) → Paired (ERel K w ρ H) kvs (xs.map (entryOfKey (nestedKind P w)))
  | _, _, .nil, _ => .nil
  | p :: kvs, x :: xs, .cons h t, hp => by
    have ok := hp p List.mem_cons_self
    refine .cons ⟨ok, ?_, ⟨p.1, .ref x.2.1, rfl, okKey_pure ok, rfl, fun _ => rfl, h.2.1, rfl⟩, h.2.2⟩ (drel_tup t fun q hq => hp q (List.mem_cons_of_mem _ hq))
    show (nestedKind P w).hash x.1 = _
    rw [h.1]; rfl
theorem TPp.fsts {K : PySem.W.Frag} {kvs : List (T × T)} {xs : List (NestedKey × Addr × Value)} (r : TPp K ρ H kvs xs) : (kvs.map fun p => kq p.1) = xs.map (·.1) := by
  induction r with
  | nil => rfl
  | cons h t ih => rw [List.map_cons, List.map_cons, ih, h.1]
theorem ext_ok {h' : Heap} {H' : Hp} {es : List DictEntry} (r : rawD a es h') : ObjOk X.prog X.w H' h' a (.ext (rawD a es)) := by
  obtain ⟨o, ep, e1, e2, e3⟩ := r
  exact ⟨⟨o, ep, e1, e2, e3⟩, ⟨o, e1⟩, rawD_stay⟩
theorem dt_set {Q : Unit → Shared → Prop} (hu : X.A.units + 64 < cLine) (I : Inv X pins σ H s) (h : H a = some (.ext (rawD a es))) (d : DRel X.K X.w ρ H kvs es) (ok : okKey k = true) (sk : sameKind kvs k) (hz : kvs.length < sizeLine) (rk : RT X.K ρ H k kv) (ru : RelV kv u) {t : T} {tv : V} {y : Value} (rt : RT X.K ρ H t tv) (rv : RelV tv y)
    (hq : ∀ es' s', DRel X.K X.w ρ H (dput kvs k t) es' → Inv X pins σ (upd H a (.ext (rawD a es'))) s' → Q () s') : wpAny (model X.prog X.w) X.A (setItem (.ref a) u y) Q E s := by
  have okall : ∀ p ∈ dput kvs k t, okKey p.1 = true ∧ isTup p.1 = isTup k := fun p hp => by
    rcases dput_keys p hp with ⟨q, hq', e⟩ | e
    · rw [← e]; exact ⟨ERel.ok d.en q hq', sk q hq'⟩
    · rw [e]; exact ⟨ok, rfl⟩
  have one : (∀ p ∈ dput kvs k t, isTup p.1 = true) ∨ ∀ p ∈ dput kvs k t, isTup p.1 = false := by
    cases hk : isTup k with
    | true => exact .inl fun p hp => (okall p hp).2.trans hk
    | false => exact .inr fun p hp => (okall p hp).2.trans hk
  have len : (dput kvs k t).length ≤ sizeLine := by have := dput_length kvs k t; omega
  cases hk : isTup k with
  | false =>
    obtain ⟨vs, dd, lp⟩ := leaf_dict I (.inl h) d fun p hp => (sk p hp).trans hk
    have hvz : vs.length ≤ sizeLine := by rw [← Paired.length lp]; omega
    refine wpAny_setItem_pairs (hsz := hvz) (leaf_is rk ru hk (okKey_pure ok)) dd fun h' dd' hs => ?_
    obtain ⟨o, es', ep, e1, e2, e3, e4, e5, e6⟩ := dd'
    have lp' := LP.put (okKey_pure ok) hk ⟨tv, rt, rv⟩ lp fun p hp => ⟨okKey_pure (ERel.ok d.en p hp), (sk p hp).trans hk⟩
    have pall : ∀ p ∈ dput kvs k t, pureT p.1 = true ∧ isTup p.1 = false := fun p hp => ⟨okKey_pure (okall p hp).1, (okall p hp).2.trans hk⟩
    refine hq es'.toList _ ⟨drel_leaf lp' e5 (fun e he => e4 e (by simpa using he)) fun p hp => ⟨(okall p hp).1, (okall p hp).2.trans hk⟩, ?_, one, len⟩ ?_
    · rw [leaf_nodup pall, lp'.fsts]; exact e6
    · exact d_write I (by rw [h]; exact True.intro) hs ⟨o, e1⟩ (ext_ok ⟨o, ep, e1, e2, by rw [e3, Array.toArray_toList]⟩)
  | true =>
    obtain ⟨xs, dd, tp⟩ := tup_dict I (.inl h) d fun p hp => (sk p hp).trans hk
    have hvz : xs.length ≤ sizeLine := by rw [← Paired.length tp]; omega
    cases rk with
    | @tup l c ys ht hr =>
      cases (show u = Value.ref c from ru)
      refine wpAny_setItem_heap (knd := nestedKind X.prog X.w) (hsz := hvz) (room_key hu) ⟨nis I (.tup l) _ _ (.tup ht hr) rfl (okKey_pure ok), okKey_deep ok⟩ dd fun h' dd' hs => ?_
      obtain ⟨o, es', ep, e1, e2, e3, e4, _, e6⟩ := dd'
      have tp' := TPp.put (.tup ht hr) ⟨tv, rt, rv⟩ tp
      refine hq es'.toList _ ⟨by rw [e4]; exact drel_tup tp' fun p hp => (okall p hp).1, by rw [tp'.fsts]; exact e6, one, len⟩ ?_
      exact d_write I (by rw [h]; exact True.intro) hs ⟨o, e1⟩ (ext_ok ⟨o, ep, e1, e2, by rw [e3, Array.toArray_toList]⟩)
    | _ => cases hk
end
end Tr

/-! Dicts and sorted, as rules over trees. -/
namespace PySem.W
open PySem PySem.Calls PyProof.Rows
section
variable {β : Type} {prog : Program} {w : World} {A : Around} {E : Value → Shared → Prop} {s : Shared} {vs : List Value} {bs : List β} {enc : β → PyData} {R : Value → β → Prop}
/-- a list's or a tuple's items are gathered into a new list -/
theorem collect_grown {Q : List Value → Shared → Prop} (it : Addr) {T : String} {o : Obj} {items : Array Value} {n : Nat} (hT : T = "list" ∨ T = "tuple") (ho : s.heap.get? it = some o) (hc : o.cls = .type T) (hd : o.data = .seq items n)
    (hQ : ∀ h', s.heap.objs.size ≤ h'.objs.size → (∀ b o', s.heap.get? b = some o' → h'.get? b = some o') → Q items.toList { s with heap := h' }) (hsz : items.size ≤ sizeLine) : wpAny (model prog w) A (collect (.ref it)) Q E s := by
  unfold collect
  refine wpAny_bind (wpAny_runValue (codeAny_builtin F.entry_proto_collect ?_))
  rw [Around.under_plainId F.plain_proto_collect _]
  show wpAny _ A.in1 (newList [] >>= fun l => again (.builtin "list.__iadd__" ⟨[l, .ref it], []⟩)) _ _ s
  refine wpAny_bind (wpAny_newObj_type ?_)
  refine wpAny_pure ⟨plainId_quiet F.plain_list_iadd _, codeAny_builtin F.entry_list_iadd ?_⟩
  rw [Around.under_plainId F.plain_list_iadd _]
  show wpAny _ A.in1 (Builtin.List.listExtendWith (.ref s.heap.objs.size) (.ref it) (.ref s.heap.objs.size)) _ _ _
  have hS : (s.heap.push { cls := .type "list", data := .seq ([] : List Value).toArray }).get? s.heap.objs.size = some { cls := .type "list", data := .seq #[] 0 } := Heap.get?_push_size _ rfl
  have hS₂ := Heap.get?_update_self (Obj.mapSeq (· ++ items)) hS rfl
  have stop : wpAny (model prog w) A (match Value.ref s.heap.objs.size with
      | Value.ref a => do
        match (← load a).data with
          | Data.seq xs _ => pure xs.toList
          | _ => unsupported "internal:collect"
      | _ => unsupported "internal:collect") Q E { s with heap := (s.heap.push { cls := .type "list", data := .seq ([] : List Value).toArray }).update s.heap.objs.size (Obj.mapSeq (· ++ items)) } := by
    show wpAny _ A (load s.heap.objs.size >>= _) _ _ _
    refine wpAny_bind (wpAny_load hS₂ ?_)
    refine wpAny_pure ?_
    have e : ((#[] : Array Value) ++ items).toList = items.toList := by simp
    show Q ((#[] : Array Value) ++ items).toList _
    rw [e]
    refine hQ _ ?_ fun b o' hb => (Heap.get?_update_other _ _ (Nat.ne_of_gt (Heap.lt_size hb))).trans (Heap.get?_push_of_some _ hb)
    rw [Heap.size_update, size_push']
    exact Nat.le_succ _
  refine wpAny_mono (wpAny_extend_seq (hsz := hsz) (A := A) (R := fun r s' => r = .ok (.ret (.ref s.heap.objs.size)) ∧ s' = { s with heap := (s.heap.push { cls := .type "list", data := .seq ([] : List Value).toArray }).update s.heap.objs.size (Obj.mapSeq (· ++ items)) })
    (s := { s with heap := s.heap.push { cls := .type "list", data := .seq ([] : List Value).toArray } }) _ it _ 0 hT hS (Heap.get?_push_of_some _ ho) hc hd ⟨rfl, rfl⟩) (fun fin s' h => ?_) (fun e s' h => absurd h.1 (by simp))
  cases fin with
  | done f =>
    obtain ⟨e, rfl⟩ := h
    cases e
    exact stop
  | again c' => exact ⟨h.1, codeAny_mono h.2 fun r s'' hr => by obtain ⟨rfl, rfl⟩ := hr; exact stop⟩
/-- sorted(xs), xs a list or a tuple -/
theorem sorted_seqD {it : Addr} {T : String} {o : Obj} {n : Nat} {Q : Value → Shared → Prop} (hT : T = "list" ∨ T = "tuple") (ho : s.heap.get? it = some o) (hc : o.cls = .type T) (hd : o.data = .seq vs.toArray n)
    (e : EachIs R vs bs) (er : EachIs (fun v b => ∃ as, Reads s.heap v (enc b) as) vs bs) (hal : AllAlike (bs.map enc)) (hk : Sortable (bs.map enc)) (hL : bs.length ≤ sizeLine)
    (hu : ∀ b, b ∈ bs → A.units + 2 + (enc b).depth < cLine)
    (h : ∀ out h' p c, (∀ b o, s.heap.get? b = some o → h'.get? b = some o) → s.heap.objs.size ≤ p → h'.get? p = some (seqObj "list" (List.toArray out) c) → EachIs R out (bs.mergeSort (dataLe false enc)) → Q (.ref p) { s with heap := h' }) :
    wpAny (model prog w) A (call (.builtin "sorted") [.ref it]) Q E s := by
  have hz : vs.length ≤ sizeLine := by rw [e.length]; exact hL
  refine call_function_entry_kw kind_sorted plain_sorted entry_sorted (args_sorted1 _) ?_
  unfold Builtin.«sorted»
  refine wpAny_bind (m := checkCount "sorted" 1 1 _) (wpAny_pure ?_)
  refine wpAny_bind (collect_grown it hT ho hc hd (fun h' hle k => ?_) (by simpa using hz))
  rw [List.toList_toArray]
  refine wpAny_bind (wpAny_newList ?_ hz)
  have hat : (h'.push (seqObj "list" vs.toArray 0)).get? h'.objs.size = some (seqObj "list" vs.toArray 0) := Heap.get?_push_size _ rfl
  have keep : ∀ b o, s.heap.get? b = some o → (sortingHeap (h'.push (seqObj "list" vs.toArray 0)) h'.objs.size vs).get? b = some o := fun b o q => by
    have q1 := k b o q
    have q2 : (h'.push (seqObj "list" vs.toArray 0)).get? b = some o := Heap.get?_push_of_some _ q1
    exact (sortingHeap_old (Nat.ne_of_lt (Heap.lt_size q1)) q2)
  have er' : EachIs (fun v b => ∃ as, Reads (sortingHeap (h'.push (seqObj "list" vs.toArray 0)) h'.objs.size vs) v (enc b) as) vs bs := er.mono fun _ _ ⟨as, r⟩ => ⟨as, PyProof.Rows.Reads.keeps keep r⟩
  refine wpAny_bind (wpAny_holding (wpAny_call_entry_kw slot_list_sort ⟨_, hat, rfl⟩ entry_list_sort ?body (args_list_sort _)))
  case body =>
    refine wpAny_mono (list_sort_vals (P := fun f s' => f = .done (.ret .none) ∧ Q (.ref h'.objs.size) s') (κ := dataKind (sortingHeap (h'.push (seqObj "list" vs.toArray 0)) h'.objs.size vs) (bs.map enc)) hat (SortsAt.data (s := { s with heap := sortingHeap (h'.push (seqObj "list" vs.toArray 0)) h'.objs.size vs }) (each_map (R := fun v d => ∃ as, Reads (sortingHeap (h'.push (seqObj "list" vs.toArray 0)) h'.objs.size vs) v d as) enc er') hal hk (bound_map hu)) hz ⟨rfl, ?_⟩) (fun f s' hf => ?_) fun _ _ e => e
    · obtain ⟨c, hc'⟩ := sortedHeap_at (vs := vs) (out := (sortVals (dataKind (sortingHeap (h'.push (seqObj "list" vs.toArray 0)) h'.objs.size vs) (bs.map enc)) false vs vs).toArray) hat
      exact h _ _ _ c (fun b o q => (sortedHeap_old (Nat.ne_of_lt (Heap.lt_size (k b o q))) (Heap.lt_size (Heap.get?_push_of_some _ (k b o q)))).trans (Heap.get?_push_of_some _ (k b o q))) hle hc' (sortVals_data false e er' hal)
    · obtain ⟨rfl, hq⟩ := hf
      exact ⟨_, rfl, wpAny_pure ⟨_, rfl, hq⟩⟩
end
end PySem.W

namespace Tr
open PySem PySem.Spec L2

/-- the promise g, as a rule over values -/
def rOf (K : PySem.W.Frag) (w : World) (g : G2) : R2 := fun x y H Q => ∃ ρ h tx ty Q', Rel K w ρ h H ∧ RT K ρ H tx x ∧ RT K ρ H ty y ∧ g tx ty h Q' ∧ Fin K w ρ H Q' Q
theorem rOf_sim {K : PySem.W.Frag} {w : World} {g : G2} : SimR K w (rOf K w g) g := fun ρ h H x y tx ty Q' Q R rx ry q fin => ⟨ρ, h, tx, ty, Q', R, rx, ry, q, fin⟩
def rcOf (K : PySem.W.Frag) (w : World) (g : GC) : List V → Hp → VK → Prop := fun xs H Q => ∃ ρ h ts Q', Rel K w ρ h H ∧ RTs K ρ H ts xs ∧ g ts h Q' ∧ Fin K w ρ H Q' Q
theorem rcOf_sim {K : PySem.W.Frag} {w : World} {g : GC} : SimC K w (rcOf K w g) g := fun ρ h H xs ts Q' Q R rx q fin => ⟨ρ, h, ts, Q', R, rx, q, fin⟩

/-- the dict at n, locked or not -/
def dAt (h : Hh) (n : Nat) (kvs : List (T × T)) : Prop := h[n]? = some (.dict kvs) ∨ h[n]? = some (.frd kvs)
section
variable {K : PySem.W.Frag} {w : World} {ρ : List Addr} {H : Hp} {h : Hh}
theorem Rel.dictAt (R : Rel K w ρ h H) {n : Nat} {v : V} {kvs : List (T × T)} (r : RT K ρ H (.ref n) v) (e : dAt h n kvs) : ∃ a es, v = .ref a ∧ ρ[n]? = some a ∧ (a == sysModules) = false ∧ RawAt H a es ∧ DRel K w ρ H kvs es := by
  cases r with
  | @ref _ a hn =>
    rcases e with e | e
    · obtain ⟨hs, es, h1, h2⟩ := R.obj n _ a e hn
      exact ⟨a, es, rfl, hn, hs, .inl h1, h2⟩
    · obtain ⟨hs, ob, es, h1, h2⟩ := R.obj n _ a e hn
      exact ⟨a, es, rfl, hn, hs, .inr ⟨ob, h1⟩, h2⟩
end
section
variable {X : Cx}
def gGetD : G2 := fun x y h Q => ∃ n kvs t, x = .ref n ∧ dAt h n kvs ∧ okKey y = true ∧ sameKind kvs y ∧ dget kvs y = some t ∧ Q t h
theorem ix_dictX (hu : X.A.units + 64 < cLine) : IxX X gGetD := by
  refine ⟨rOf X.K X.w gGetD, ?_, rOf_sim⟩
  rintro value slice pins s σ H x y v u Q I rx ry ⟨ρ, h, tx, ty, Q', R, r1, r2, ⟨n, kvs, t, e1, e2, ok, sk, eg, q⟩, fin⟩ hs
  subst e1
  obtain ⟨a, es, rfl, hn, hm, ra, dr⟩ := R.dictAt r1 e2
  cases (show v = Value.ref a from rx)
  obtain ⟨o, ep, g1, g2, g3⟩ := ra.raw I
  exact PyProof.Rows.tail_any ⟨o, g1, g2.1⟩ F.slot_dict_getitem.lookup (dt_get hu I ra dr ok sk r2 ry eg fun z s' I' ⟨v, rv, qv⟩ => ⟨v, H, I', qv, fin ρ H v t h (.refl _ _) R rv q⟩) hs
def gInD (neg : Bool) : G2 := fun x y h Q => ∃ n kvs, y = .ref n ∧ dAt h n kvs ∧ okKey x = true ∧ sameKind kvs x ∧ Q (.bl (if neg then !(dget kvs x).isSome else (dget kvs x).isSome)) h
theorem ox_inD (hu : X.A.units + 64 < cLine) : OpX X (compareOp .In) (gInD false) := by
  refine ⟨rOf X.K X.w (gInD false), ?_, rOf_sim⟩
  rintro pins s σ H x y v u Q I rx ry ⟨ρ, h, tx, ty, Q', R, r1, r2, ⟨n, kvs, e1, e2, ok, sk, q⟩, fin⟩
  subst e1
  obtain ⟨a, es, rfl, hn, hm, ra, dr⟩ := R.dictAt r2 e2
  cases (show u = Value.ref a from ry)
  exact dt_in hu hm I ra dr ok sk r1 rx fun s' I' => ⟨.bl _, H, I', rfl, fin ρ H _ _ h (.refl _ _) R (.bl _) q⟩
theorem ox_notInD (hu : X.A.units + 64 < cLine) : OpX X (compareOp .NotIn) (gInD true) := by
  refine ⟨rOf X.K X.w (gInD true), ?_, rOf_sim⟩
  rintro pins s σ H x y v u Q I rx ry ⟨ρ, h, tx, ty, Q', R, r1, r2, ⟨n, kvs, e1, e2, ok, sk, q⟩, fin⟩
  subst e1
  obtain ⟨a, es, rfl, hn, hm, ra, dr⟩ := R.dictAt r2 e2
  cases (show u = Value.ref a from ry)
  exact dt_notIn hu hm I ra dr ok sk r1 rx fun s' I' => ⟨.bl _, H, I', rfl, fin ρ H _ _ h (.refl _ _) R (.bl _) q⟩
/-- d[k] = v -/
def gSetD : GS := fun o i v h Q => ∃ n kvs, o = .ref n ∧ h[n]? = some (.dict kvs) ∧ okKey i = true ∧ sameKind kvs i ∧ kvs.length < sizeLine ∧ Q (h.set n (.dict (dput kvs i v)))
theorem sx_dict (hu : X.A.units + 64 < cLine) : SetX X gSetD := by
  refine ⟨fun o i v H Q => ∃ ρ h to ti tv Q', Rel X.K X.w ρ h H ∧ RT X.K ρ H to o ∧ RT X.K ρ H ti i ∧ RT X.K ρ H tv v ∧ gSetD to ti tv h Q' ∧ ∀ ρ2 H2 h2, Ext ρ H ρ2 H2 → Rel X.K X.w ρ2 h2 H2 → Q' h2 → Q H2, ?_, fun ρ h H o i v to ti tv Q' Q R ro ri rv q fin => ⟨ρ, h, to, ti, tv, Q', R, ro, ri, rv, q, fin⟩⟩
  rintro pins s σ H o i v ov iv u Q I ro ri rv ⟨ρ, h, to, ti, tv, Q', R, r1, r2, r3, ⟨n, kvs, e1, e2, ok, sk, hz, q⟩, fin⟩
  subst e1
  cases r1 with
  | @ref _ a hn =>
    obtain ⟨hs, es, h1, h2⟩ := R.obj n _ a e2 hn
    cases (show ov = Value.ref a from ro)
    refine dt_set hu I h1 h2 ok sk hz r2 ri r3 rv fun es' s' dr I' => ⟨_, I', ?_⟩
    have e : Ext ρ H ρ (upd H a (.ext (rawD a es'))) := .put (List.mem_of_getElem? hn) fun o v z => by rw [h1] at z; cases z
    exact fin ρ _ _ e (R.put (o := .dict (dput kvs ti tv)) hn ⟨hs, es', upd_same, dr.mono (List.prefix_refl _) fun b ys z => by rw [upd_ne (fun w => by rw [w, h1] at z; cases z)]; exact z⟩) q
/-- {} -/
def wDct : WE := fun _ h Q => Q (.ref h.length) (h ++ [.dict []])
theorem px_dnew {pos : Pos} : PX X (.Dict [] [] pos) wDct := by
  refine ⟨⟨fun pins s σ H Q I ⟨ρ, sl, h, Q', R, S, hw, fin⟩ => ?_⟩⟩
  have raw : rawD s.heap.objs.size [] (s.heap.push { cls := .type "dict", data := .dict #[] }) := ⟨_, 0, Heap.get?_push_size _ rfl, ⟨rfl, rfl, rfl⟩, rfl⟩
  have hn : H s.heap.objs.size = none := I.hok.fresh (Nat.le_refl _)
  refine wpAny_Dict_empty ⟨.ref s.heap.objs.size, _, I.laid (a := s.heap.objs.size) (o := .ext (rawD s.heap.objs.size [])) (t' := s.toks) (fun _ _ q => Heap.get?_push_of_some _ q) (Nat.le_refl _) (ext_ok raw), rfl, ?_⟩
  exact fin (ρ ++ [s.heap.objs.size]) _ _ (.ref h.length) (h ++ [.dict []]) (.push hn) (R.push (o := .dict []) hn ⟨beq_eq_false_iff_ne.mpr (Ne.symm (Nat.ne_of_lt I.big)), [], upd_same, ⟨.nil, List.nodup_nil, .inl (fun p hp => nomatch hp), Nat.zero_le _⟩⟩) (.ref (get_end R.len)) hw
/-- len of a dict -/
def gLenD : GC := fun ts h Q => ∃ n kvs, ts = [.ref n] ∧ dAt h n kvs ∧ Q (.int kvs.length) h
theorem cx_lenD : CallX X (.builtin "len") gLenD := by
  refine ⟨rcOf X.K X.w gLenD, ?_, rcOf_sim⟩
  rintro pins s σ H xs us Q I r ⟨ρ, h, ts, Q', R, rs, ⟨n, kvs, e1, e2, q⟩, fin⟩
  subst e1
  obtain ⟨v, rfl, rv⟩ := rs.one
  obtain ⟨u, rfl, rx⟩ := vals1 r
  obtain ⟨a, es, rfl, hn, hm, ra, dr⟩ := R.dictAt rv e2
  cases (show u = Value.ref a from rx)
  have hz := dr.sz
  have fin' := fin ρ H (.int ((kvs.length : Nat) : Int)) _ h (.refl _ _) R (.int _) q
  rcases dr.one with z | z
  · obtain ⟨xs, dd, tp⟩ := tup_dict I ra dr z
    have hl : kvs.length = xs.length := Paired.length tp
    refine call_len_dictH hm dd (by rw [← hl]; rw [sizeLine_eq] at hz; omega) ?_
    rw [← hl]
    exact ⟨.int ((kvs.length : Nat) : Int), H, I.tok _, ⟨_, rfl⟩, fin'⟩
  · obtain ⟨vs, dd, lp⟩ := leaf_dict I ra dr z
    have hl : kvs.length = vs.length := Paired.length lp
    refine call_len_dict hm dd (by rw [← hl]; rw [sizeLine_eq] at hz; omega) ?_
    rw [← hl]
    exact ⟨.int ((kvs.length : Nat) : Int), H, I.tok _, ⟨_, rfl⟩, fin'⟩
def gLen : GC := fun ts h Q => gLenS ts h Q ∨ gLenD ts h Q
theorem cx_len : CallX X (.builtin "len") gLen := cx_lenS.or cx_lenD

/-! ### sorted -/
def VRelR (K : PySem.W.Frag) (ρ : List Addr) (H : Hp) (u : Value) (t : T) : Prop := ∃ v, RT K ρ H t v ∧ RelV v u
def gSorted : GC := fun ts h Q => ∃ x xs, ts = [x] ∧ seqT h x = some xs ∧ pureTs xs = true ∧ W.AllAlike (xs.map dT) ∧ W.Sortable (xs.map dT) ∧ (∀ t ∈ xs, (dT t).depth ≤ 8) ∧ xs.length ≤ sizeLine ∧ Q (.ref h.length) (h ++ [.lst (xs.mergeSort (W.dataLe false dT))])
theorem each_rt {K : PySem.W.Frag} {ρ : List Addr} {H : Hp} : ∀ {xs : List T} {ys : List V} {us : List Value}, RTs K ρ H xs ys → Vals ys us → W.EachIs (VRelR K ρ H) us xs
  | _, _, _, .nil, .nil => .nil
  | _, _, _, .cons r1 r2, .cons q1 q2 => .cons ⟨_, r1, q1⟩ (each_rt r2 q2)
theorem each_reads {pins : List (Addr × Obj)} {σ : L2.St} {H : Hp} {s : Shared} {ρ : List Addr} (I : Inv X pins σ H s) : ∀ {xs : List T} {ys : List V} {us : List Value}, RTs X.K ρ H xs ys → Vals ys us → pureTs xs = true → W.EachIs (fun v b => ∃ as, Reads s.heap v (dT b) as) us xs
  | _, _, _, .nil, .nil, _ => .nil
  | t :: l, _, _, .cons r1 r2, .cons q1 q2, p => by
    have p' : (pureT t && pureTs l) = true := p
    rw [Bool.and_eq_true] at p'
    exact .cons (Dp.reads I _ _ _ (dp_of t _ r1 p'.1) q1) (each_reads I r2 q2 p'.2)
theorem of_each {K : PySem.W.Frag} {ρ : List Addr} {H : Hp} : ∀ {us : List Value} {xs : List T}, W.EachIs (VRelR K ρ H) us xs → ∃ ys, RTs K ρ H xs ys ∧ Vals ys us
  | _, _, .nil => ⟨[], .nil, .nil⟩
  | _, _, .cons ⟨v, r, q⟩ t => let ⟨ys, a, b⟩ := of_each t; ⟨v :: ys, .cons r a, .cons q b⟩
theorem cx_sorted (hu : X.A.units + 64 < cLine) : CallX X (.builtin "sorted") gSorted := by
  refine ⟨rcOf X.K X.w gSorted, ?_, rcOf_sim⟩
  rintro pins s σ H zs us Q I r ⟨ρ, h, ts, Q', R, rs, ⟨x, xs, e1, hx, pu, hal, hk, hd, hz, q⟩, fin⟩
  subst e1
  obtain ⟨v, rfl, rv⟩ := rs.one
  obtain ⟨u, rfl, rx⟩ := vals1 r
  obtain ⟨p, ys, rfl, hs, ry⟩ := seq_any R rv hx
  cases (show u = Value.ref p from rx)
  obtain ⟨its, vl, T', o, n, hT, ho, hc, hdat⟩ : ∃ its, Vals ys its ∧ ∃ T' o n, (T' = "list" ∨ T' = "tuple") ∧ s.heap.get? p = some o ∧ o.cls = .type T' ∧ o.data = .seq (List.toArray its) n := by
    rcases hs with hs | hs
    · obtain ⟨its, r1, ⟨o, n, e, c, _, d⟩, _⟩ := I.list hs
      exact ⟨its, r1, "list", o, n, .inl rfl, e, c, d⟩
    · obtain ⟨its, r1, ⟨o, e, c, n, d⟩, _⟩ := I.tuple hs
      exact ⟨its, r1, "tuple", o, n, .inr rfl, e, c, d⟩
  refine W.sorted_seqD hT ho hc hdat (each_rt ry vl) (each_reads I ry vl pu) hal hk hz (fun t ht => by have := hd t ht; omega) fun out h' p' c keep le at' eo => ?_
  obtain ⟨ws, rw', vw⟩ := of_each eo
  have hl : ws.length ≤ sizeLine := by rw [← rw'.length, (List.mergeSort_perm ..).length_eq]; exact hz
  exact ⟨.ref p', upd H p' (.lst ws), I.laid (t' := s.toks) keep le ⟨hl, out, c, vw, at'⟩, rfl, fin_lst R rw' fin q (I.hok.fresh le)⟩

/-! ### for key in a dict of tuples -/
def ItkD (d : Addr) (o : Obj) (es : List DictEntry) : It :=
  ⟨fun i H => H d = some (.frz o (.ext (rawD d es))) ∧ i < es.length, fun i H x H' => H' = H ∧ ∃ en, es[i]? = some en ∧ RelV x en.key, fun i H => H d = some (.frz o (.ext (rawD d es))) ∧ es.length ≤ i⟩
theorem frz_at {pins : List (Addr × Obj)} {σ : L2.St} {H : Hp} {s : Shared} {d : Addr} {o : Obj} {es : List DictEntry} (I : Inv X pins σ H s) (h : H d = some (.frz o (.ext (rawD d es)))) : s.heap.get? d = some o ∧ o.ExactDict ∧ ∃ ep, o.data = .dict es.toArray ep := by
  obtain ⟨e1, q⟩ := (show ObjOk X.prog X.w H s.heap d (.frz o (.ext (rawD d es))) from I.hok d _ h)
  obtain ⟨o', ep, g1, g2, g3⟩ := q.1
  rw [e1] at g1; cases g1
  exact ⟨e1, g2, ep, g3⟩
theorem turn_keysD {P : Program} {w : World} {K : PySem.W.Frag} {tg : Expr} {d : Addr} {o : Obj} {es : List DictEntry} {ep : Nat} (it : Addr) (hod : o.data = .dict es.toArray ep) (hr : ∀ en ∈ es, ∃ x, RelV x en.key) : Turn P w K tg (ItkD d o es) [it] it (fun i h => h.IsKeyIter it d i es.length ep) where
  mem := by simp
  obj := fun i h st b hb => by
    have e : b = it := by simpa using hb
    subst e
    obtain ⟨oi, e, c, dd⟩ := st
    exact ⟨oi, e, fun v z => by rw [dd] at z; cases z⟩
  keep := fun i h h' st k => st.at fun oi e => k it (by simp) oi e
  item := by
    intro X hP hw hK hc i pins s σ H E I hf st hg
    subst hP hw hK
    obtain ⟨hd, hi⟩ := hg
    obtain ⟨f0, f1, f2, f3, f4, f5⟩ := hf it (by simp)
    obtain ⟨g1, g2, ep', g3⟩ := frz_at I hd
    rw [hod] at g3
    have hen : es.toArray[i]? = some es[i] := by simp [hi]
    obtain ⟨x, rx⟩ := hr es[i] (List.getElem_mem hi)
    refine next_key_item st g1 hod (by simp) hen fun h' st' sb => ?_
    have I1 : Inv X pins σ H { s with heap := h' } := I.turned (t' := s.toks) (fun b ob hb e => (sb.2 b hb).trans e) f0 f1 f3 f4 f5
    obtain ⟨oi, e, c, dd⟩ := id st'
    exact ⟨es[i].key, rfl, go_of (s := { s with heap := h' }) e c dd (by decide) ⟨x, H, I1, rx, ⟨rfl, es[i], List.getElem?_eq_getElem hi, rx⟩, st', fun b hb => (hf b hb).1⟩⟩
  done := by
    intro X hP hw hK hc i pins s σ H E I hf st hg
    subst hP hw hK
    obtain ⟨hd, hi⟩ := hg
    obtain ⟨f0, f1, f2, f3, f4, f5⟩ := hf it (by simp)
    obtain ⟨g1, g2, ep', g3⟩ := frz_at I hd
    exact next_key_end (I.ok.hd hc) st g1 hod (by simp) hi fun h' eb => ⟨rfl, I.turned (t' := s.toks) (fun b ob hb e => eb b ob hb e) f0 f1 f3 f4 f5⟩
  self := fun A i s Q E st h => by
    refine wpAny_pyIter_slot st.typeIs F.slot_dict_keyiterator_iter (wpAny_call_entry F.slot_dict_keyiterator_iter st.typeIs F.entry_dict_keyiterator_iter ?_ (F.args_dict_keyiterator_iter_1 _))
    show wpAny _ _ (ret (.ref it)) _ _ s
    exact wpAny_pure ⟨_, rfl, "dict_keyiterator", _, st.typeIs, F.slot_dict_keyiterator_next.lookup, h⟩
def iKeysD (td : TE) : TI := fun σ H R => td σ H fun x H1 => ∃ d o es, x = .ref d ∧ (d == sysModules) = false ∧ H1 d = some (.frz o (.ext (rawD d es))) ∧ (∀ en ∈ es, ∃ x, RelV x en.key) ∧ R (ItkD d o es) H1
theorem pi_keysD {tg e : Expr} {td : TE} (he : PE X e td) : PI X tg e (iKeysD td) := by
  refine ⟨fun pins s σ H R I h => ?_⟩
  refine thn (he.run pins s σ H _ I h) fun u s1 ⟨x, H1, I1, rx, d, o, es, ex, hs, hd, hr, q⟩ => ?_
  subst ex
  obtain rfl : u = Value.ref d := rx
  obtain ⟨g1, g2, ep, g3⟩ := frz_at I1 hd
  refine iter_keys hs g1 g2 g3 (pi_one (tk := s1.toks) I1 _ (turn_keysD _ g3 hr) ⟨_, Heap.get?_push_size _ rfl, rfl, ?_⟩ q)
  simp
theorem paired_get {α β : Type} {F : α → β → Prop} : ∀ {l : List α} {m : List β} {i : Nat} {a : α}, Paired F l m → l[i]? = some a → ∃ b, m[i]? = some b ∧ F a b
  | _, _, 0, _, .cons r _, e => by cases e; exact ⟨_, rfl, r⟩
  | _, _, i + 1, _, .cons _ t, e => by rw [List.getElem?_cons_succ] at e ⊢; exact paired_get t e
theorem SRel.keep {K : PySem.W.Frag} {ρ : List Addr} {H H' : Hp} {s : Sl} {σ : L2.St} (k : ∀ a ys, H a = some (.tup ys) → H' a = some (.tup ys)) (r : SRel K ρ H s σ) : SRel K ρ H' s σ :=
  ⟨r.len, fun i t e => let ⟨v, e1, e2⟩ := r.get i t e; ⟨v, e1, RT.mono (List.prefix_refl _) k t v e2⟩⟩
/-- the name in slot i holds a dict of tuples -/
def wForD (i : Nat) (g : WG) (fb : WS) : WS := fun D s h => ∃ n kvs, s[i]? = some (some (.ref n)) ∧ h[n]? = some (.dict kvs) ∧ (∀ p ∈ kvs, isTup p.1 = true) ∧ ∃ J : Nat → Sl → Hh → Prop, J 0 s (h.set n (.frd kvs)) ∧
  (∀ j p s h, kvs[j]? = some p → J j s h → g p.1 s h fun s2 h2 => fb ⟨J (j + 1), fun t h => D.rt t (h.set n (.dict kvs)), fun s h => D.nx s (h.set n (.dict kvs)), J (j + 1)⟩ s2 h2) ∧ ∀ s h, J kvs.length s h → D.nx s (h.set n (.dict kvs))
theorem pxs_forD {tg iter : Expr} {body : List Stmt} {i : Nat} {g : WG} {fb : WS} {pos : Pos} (hp : PassesOwn (model X.prog X.w) X.A X.env X.xe) (hc : X.calm = true) (hi : PE X iter (tVar i)) (hg : PXG X tg g) (hb : PXSs X body fb)
    (hs : ∀ x, foldedSetIterable iter X.env x = pure x := by intro _; rfl) : PXS X (.For tg iter body [] pos) (wForD i g fb) := by
  refine ⟨(ps_lock (ps_for hp hc (pi_keysD hi) hg.pg hb.ps hs)).imp fun D σ H ⟨ρ, s, h, D', R, S, ⟨n, kvs, hi, hn, ht, J, j0, turn, done⟩, fin⟩ => ?_⟩
  obtain ⟨v, ev, rv⟩ := S.get i _ hi
  cases rv with
  | @ref _ d hd =>
    obtain ⟨hm, es, h1, h2⟩ := R.obj n _ d hn hd
    refine ⟨d, .ext (rawD d es), h1, True.intro, fun od => ?_⟩
    have keepT : ∀ a ys, H a = some (.tup ys) → upd H d (.frz od (.ext (rawD d es))) a = some (.tup ys) := fun a ys z => by rw [upd_ne (fun w => by rw [w, h1] at z; cases z)]; exact z
    have e0 : Ext ρ H ρ (upd H d (.frz od (.ext (rawD d es)))) := .put (List.mem_of_getElem? hd) fun o v z => by rw [h1] at z; cases z
    have R0 : Rel X.K X.w ρ (h.set n (.frd kvs)) (upd H d (.frz od (.ext (rawD d es)))) := R.put (o := .frd kvs) hd ⟨hm, od, es, upd_same, h2.mono (List.prefix_refl _) keepT⟩
    have S0 := S.keep keepT
    have hl : kvs.length = es.length := Paired.length h2.en
    have back : ∀ ρ2 H2 h2', Ext ρ (upd H d (.frz od (.ext (rawD d es)))) ρ2 H2 → Rel X.K X.w ρ2 h2' H2 → H2 d = some (.frz od (.ext (rawD d es))) ∧ (∀ a ys, H2 a = some (.tup ys) → upd H2 d (.ext (rawD d es)) a = some (.tup ys)) ∧ Ext ρ H ρ2 (upd H2 d (.ext (rawD d es))) ∧ Rel X.K X.w ρ2 (h2'.set n (.dict kvs)) (upd H2 d (.ext (rawD d es))) := by
      intro ρ2 H2 h2' e2 R2
      have hf : H2 d = some (.frz od (.ext (rawD d es))) := e2.frz d od _ upd_same
      have k2 : ∀ a ys, H2 a = some (.tup ys) → upd H2 d (.ext (rawD d es)) a = some (.tup ys) := fun a ys z => by rw [upd_ne (fun w => by rw [w, hf] at z; cases z)]; exact z
      have hd2 : ρ2[n]? = some d := by obtain ⟨z, hz⟩ := e2.pre; rw [← hz, List.getElem?_append_left (List.getElem?_eq_some_iff.mp hd).1]; exact hd
      refine ⟨hf, k2, ?_, R2.put (o := .dict kvs) hd2 ⟨hm, es, upd_same, h2.mono e2.pre fun a ys z => k2 a ys (R0.tups e2 a ys (keepT a ys z))⟩⟩
      have e3 := e0.trans e2
      refine ⟨e3.pre, e3.new, fun a ha hx => ?_, fun a o v z => ?_⟩
      · by_cases hb : a = d
        · subst hb; exact absurd (List.mem_of_getElem? hd) hx
        · rw [upd_ne hb]; exact e3.keep a ha hx
      · by_cases hb : a = d
        · subst hb; rw [h1] at z; cases z
        · rw [upd_ne hb]; exact e3.frz a o v z
    have fin0 : FinS X.K X.w ρ (upd H d (.frz od (.ext (rawD d es)))) ⟨fun s h => D'.nx s (h.set n (.dict kvs)), fun t h => D'.rt t (h.set n (.dict kvs)), fun s h => D'.bk s (h.set n (.dict kvs)), fun s h => D'.ct s (h.set n (.dict kvs))⟩
        ⟨fun σ' H' => H' d = some (.frz od (.ext (rawD d es))) ∧ D.nx σ' (upd H' d (.ext (rawD d es))), fun v H' => H' d = some (.frz od (.ext (rawD d es))) ∧ D.rt v (upd H' d (.ext (rawD d es))), fun σ' H' => H' d = some (.frz od (.ext (rawD d es))) ∧ D.bk σ' (upd H' d (.ext (rawD d es))), fun σ' H' => H' d = some (.frz od (.ext (rawD d es))) ∧ D.ct σ' (upd H' d (.ext (rawD d es)))⟩ := by
      refine ⟨fun ρ2 H2 s2 σ2 h2 e2 R2 S2 q2 => ?_, fun ρ2 H2 v t h2 e2 R2 r2 q2 => ?_, fun ρ2 H2 s2 σ2 h2 e2 R2 S2 q2 => ?_, fun ρ2 H2 s2 σ2 h2 e2 R2 S2 q2 => ?_⟩
      all_goals obtain ⟨hf, k2, e3, R3⟩ := back ρ2 H2 h2 e2 R2
      · exact ⟨hf, fin.nx ρ2 _ s2 σ2 _ e3 R3 (S2.keep k2) q2⟩
      · exact ⟨hf, fin.rt ρ2 _ v t _ e3 R3 (RT.mono (List.prefix_refl _) k2 t v r2) q2⟩
      · exact ⟨hf, fin.bk ρ2 _ s2 σ2 _ e3 R3 (S2.keep k2) q2⟩
      · exact ⟨hf, fin.ct ρ2 _ s2 σ2 _ e3 R3 (S2.keep k2) q2⟩
    have key : ∀ (j : Nat) (p : T × T), kvs[j]? = some p → ∃ en a, es[j]? = some en ∧ en.key = .ref a ∧ RT X.K ρ H p.1 (.ref a) := by
      intro j p hj
      obtain ⟨en, he, _, _, ⟨t, v, _, _, _, a4, r, q⟩, _⟩ := paired_get h2.en hj
      have htp := ht p (List.mem_of_getElem? hj)
      obtain rfl := a4 htp
      obtain ⟨k, kv⟩ := p
      cases k with
      | tup l =>
        cases r with
        | @tup _ c ys ht hr => exact ⟨en, c, he, q, .tup ht hr⟩
      | _ => cases htp
    refine ⟨.ref d, ev, d, od, es, rfl, hm, upd_same, fun en hen => ?_, for_core (item := fun j => (kvs.getD j (.non, .non)).1) (n := kvs.length) R0 S0 fin0 j0 (fun j s h hj j1 => turn j _ s h ?_ j1) done (fun ρ1 H1 s1 h1' e1 R1 j1 => ?_) (fun j ρ1 H1 s1 h1' hj e1 R1 j1 => ?_)⟩
    · obtain ⟨j, hj⟩ := List.mem_iff_getElem?.mp hen
      have hjl : j < kvs.length := by rw [hl]; exact (List.getElem?_eq_some_iff.mp hj).1
      obtain ⟨en', a, g1, g2, g3⟩ := key j _ (List.getElem?_eq_getElem hjl)
      rw [hj] at g1; cases g1
      exact ⟨.ref a, g2⟩
    · rw [List.getD_eq_getElem?_getD, List.getElem?_eq_getElem hj]; rfl
    · exact ⟨e1.frz d od _ upd_same, by rw [hl]; exact Nat.le_refl _⟩
    · obtain ⟨en, a, g1, g2, g3⟩ := key j _ (List.getElem?_eq_getElem hj)
      refine ⟨⟨e1.frz d od _ upd_same, by rw [← hl]; exact hj⟩, fun x H3 ⟨y1, en', y2, y3⟩ => ⟨y1, ?_⟩⟩
      rw [g1] at y2; cases y2
      rw [g2] at y3
      have ex : x = .ref a := by
        cases x with
        | ref b => cases (show Value.ref a = Value.ref b from y3); rfl
        | non => cases y3
        | bl _ => cases y3
        | int _ => obtain ⟨_, z⟩ := y3; cases z
        | str _ => obtain ⟨_, z⟩ := y3; cases z
        | byt _ => obtain ⟨_, z⟩ := y3; cases z
        | flt _ => obtain ⟨_, z⟩ := y3; cases z
        | ty _ => cases y3
      subst ex
      rw [List.getD_eq_getElem?_getD, List.getElem?_eq_getElem hj]
      exact R0.rt e1 (RT.mono (List.prefix_refl _) keepT _ _ g3)
end
end Tr

/-! The program's defs, as promises over trees. -/
namespace Tr
open PySem PySem.Spec L2

/-- a body's word as a promise: n arguments, N slots -/
def gFn (n N : Nat) (f : WS) : GC := fun ts h Q => ts.length = n ∧ f { nx := fun _ h' => Q .non h', rt := Q } (ts.map some ++ List.replicate (N - n) none) h
theorem start_rel {K : PySem.W.Frag} {ρ : List Addr} {H : Hp} (k : Nat) : ∀ {ts : List T} {vs : List V}, RTs K ρ H ts vs → SRel K ρ H (ts.map some ++ List.replicate k none) (vs.map some ++ List.replicate k none)
  | [], [], .nil => ⟨by simp, fun i t e => by
      rw [List.map_nil, List.nil_append, List.getElem?_replicate] at e
      split at e <;> cases e⟩
  | _ :: _, _ :: _, .cons r rr => by
    have ih := start_rel k rr
    refine ⟨by simp [rr.length], fun i t e => ?_⟩
    cases i with
    | zero => cases e; exact ⟨_, rfl, r⟩
    | succ i => exact ih.get i t e
section
variable {P : Program} {w : World} {K : PySem.W.Frag} {mg : Str → Option Value} {base : Heap}
theorem fn_ok {x qual : Str} {st : Stmt} {f : Addr} {fd : FuncData} {N ps : List Str} {k : Nat} {ws : WS} (F : Fun K x qual st f fd) (S : FnScope N ps (defScope st)) (n m : Nat) (hn : ps.length = n) (hm : N.length = m)
    (hb : ∀ (cdv : Value) (A : Around) (outer : List Env) (s : Shared) (H : Hp) (E : XK), Room k (A.deeper (PyProof.Rows.envOfC qual (defScope st) s.heap.objs.size f cdv)) → PXSs (cxOf CX0 P w K mg base N qual (defScope st) f cdv A outer s H E).nox (defBody st) ws) :
    FnOk P w K mg base CX0 (k + 1) f fd ps (spT K w (gFn n m ws)) := by
  refine F.ok S (fun vs H Q E ⟨ρ, h, ts, Q', R, rs, ⟨hl, _⟩, _⟩ => by rw [← rs.length, hl, hn]) (fun cdv A outer s H vs Q E hr ⟨ρ, h, ts, Q', R, rs, ⟨hl, q⟩, fin⟩ => ?_)
  refine ⟨_, (hb cdv A outer s H E hr).ps, ρ, ts.map some ++ List.replicate (m - n) none, h, _, R, ?_, q, ?_⟩
  · show SRel K ρ H _ (vs.map some ++ List.replicate (N.length - vs.length) none)
    have e : N.length - vs.length = m - n := by rw [hm, ← rs.length, hl]
    rw [e]
    exact start_rel _ rs
  · exact ⟨fun ρ2 H2 s2 σ2 h2 e2 R2 S2 q2 => fin ρ2 H2 .non .non h2 e2 R2 .non q2, fin, fun _ _ _ _ _ _ _ _ z => z.elim, fun _ _ _ _ _ _ _ _ z => z.elim⟩
/-- the def x stands, and keeps the promise g -/
def Has (P : Program) (w : World) (K : PySem.W.Frag) (mg : Str → Option Value) (base : Heap) (x : Str) (ps : List Str) (k : Nat) (g : GC) : Prop :=
  ∃ f fd, FnOk P w K mg base CX0 k f fd ps (spT K w g) ∧ mg x = some (.ref f) ∧ PySem.W.keepIn K (.ref f) = true ∧ Binds K fd ps []
theorem Has.mono {x : Str} {ps : List Str} {j k : Nat} {g : GC} (h : Has P w K mg base x ps j g) (hk : j ≤ k) : Has P w K mg base x ps k g :=
  let ⟨f, fd, a, b, c, d⟩ := h; ⟨f, fd, a.mono hk, b, c, d⟩
theorem Has.imp {x : Str} {ps : List Str} {k : Nat} {g g' : GC} (h : Has P w K mg base x ps k g) (i : ∀ ts h Q, g' ts h Q → g ts h Q) : Has P w K mg base x ps k g' :=
  let ⟨f, fd, a, b, c, d⟩ := h; ⟨f, fd, a.imp fun vs H Q E ⟨ρ, h, ts, Q', R, r, q, fin⟩ => ⟨ρ, h, ts, Q', R, r, i _ _ _ q, fin⟩, b, c, d⟩
end
section
variable {X : Cx}
theorem px_fnH {k : Nat} {x : Str} {ps : List Str} {g : GC} {e : Expr} {es : List Expr} {fs : WA} {p pos : Pos} (C : Has X.prog X.w X.K X.mg X.base x ps k g) (hr : Room k X.A) (hg : Gl X x) (ha : PXA X (e :: es) fs)
    (hdb : (x == ("__debug__" : Str)) = false := by decide) (he : starEach (e :: es) X.env = (false, eval e X.env) :: starEach es X.env := by rfl) (hpl : (backTo pos (starEach es X.env)).any (·.1) = false := by rfl) :
    PX X (.Call (.Name x p) (e :: es) [] pos) (wCall g fs) := by
  obtain ⟨f, fd, F, hm, hk, hb⟩ := C
  exact px_fn F hr hg hm hk hb ha hdb he hpl
def gSub : G2 := gI0 fun i j => .int (i - j)
def gMul : G2 := gI IntMulOk fun i j => .int (i * j)
def gFdiv : G2 := gI CDivN fun i j => .int (i.fdiv j)
def gMod : G2 := gI (fun _ j => j ≠ 0) fun i j => .int (i.fmod j)
def gPow : G2 := gI CPow fun i j => .int (i ^ j.toNat)
def gLt : G2 := gI0 fun i j => .bl (decide (i < j))
def gLe : G2 := gI0 fun i j => .bl (decide (i ≤ j))
def gGe : G2 := gI0 fun i j => .bl (decide (j ≤ i))
def gNeg : T → Hh → VKT → Prop := fun x h Q => ∃ i, x = .int i ∧ Q (.int (-i)) h
theorem ox_subX : OpX X (binaryOp .Sub) gSub := ox_sub
theorem ox_mulX : OpX X (binaryOp .Mult) gMul := ox_mul
theorem ox_fdivX : OpX X (binaryOp .FloorDiv) gFdiv := ox_fdiv
theorem ox_modX : OpX X (binaryOp .Mod) gMod := ox_mod
theorem ox_powX : OpX X (binaryOp .Pow) gPow := ox_pow
theorem ox_ltX : OpX X (compareOp .Lt) gLt := ox_lt
theorem ox_leX : OpX X (compareOp .LtE) gLe := ox_le
theorem ox_geX : OpX X (compareOp .GtE) gGe := ox_ge
theorem ux_negX : UnX X (unaryOp .USub) gNeg := ux_neg
def gIxA : G2 := fun x y h Q => gIx x y h Q ∨ gGetD x y h Q
theorem ix_any (hu : X.A.units + 64 < cLine) : IxX X gIxA := ix_seqX.or (ix_dictX hu)
def gInA (neg : Bool) : G2 := fun x y h Q => gIn neg x y h Q ∨ gInD neg x y h Q
theorem ox_in (hu : X.A.units + 64 < cLine) : OpX X (compareOp .In) (gInA false) := ox_inS.or (ox_inD hu)
theorem ox_notIn (hu : X.A.units + 64 < cLine) : OpX X (compareOp .NotIn) (gInA true) := ox_notInS.or (ox_notInD hu)
def gSetA : GS := fun o i v h Q => gSetL o i v h Q ∨ gSetD o i v h Q
theorem sx_any (hu : X.A.units + 64 < cLine) : SetX X gSetA := sx_list.or (sx_dict hu)
def gMinA : GC := fun ts h Q => gMin ts h Q ∨ gMin2 ts h Q
theorem cx_minA (hc : X.calm = true) : CallX X (.builtin "min") gMinA := (cx_min hc).or (cx_min2 hc)
theorem sw_false {e : Expr} {t : Option Expr} {l : Nat} {env : Env} (h : swapsWith e t l env = pure false) : swapsWith e t l env = pure false := h
end
/-- the names of the built-ins stand as booted -/
structure Blt (mg : Str → Option Value) : Prop where
  len : mg "len" = none
  min : mg "min" = none
  int : mg "int" = none
  tuple : mg "tuple" = none
  list : mg "list" = none
  sorted : mg "sorted" = none
  isinstance : mg "isinstance" = none
  range : mg "range" = none
  bool : mg "bool" = none
  str : mg "str" = none
  dict : mg "dict" = none
end Tr

/-! The defs of the text, each walked once: written by gen.py. -/
namespace K60
open PySem PySem.Spec L2 Tr
def topS (i : Nat) : Stmt := PySem.Challenge.pw_gateproof_k60_whole_least_tables_of_pref.main.body.getD i (.Pass ⟨0, 0, 0, 0⟩)
section
variable {P : Program} {w : World} {K : PySem.W.Frag} {mg : Str → Option Value} {base : Heap}

abbrev s_bits_for : Stmt := topS 1
abbrev N_bits_for : List Str := ["size", "bits", "power"]
theorem sc_bits_for : FnScope N_bits_for ["size"] (defScope s_bits_for) := ⟨rfl, rfl, rfl, by decide +kernel, rfl, by decide +kernel, by decide +kernel⟩
def w_bits_for : WS := (wSeq (wAsg (wC (.int 0)) (gNm 1))
    (wSeq (wAsg (wC (.int 1)) (gNm 2))
    (wSeq (wWhile (wTst (wBin gLt (wV 2) (wV 0))) (wSeq (wAsg (wBin gAdd (wV 1) (wC (.int 1))) (gNm 1))
    (wAsg (wBin gMul (wC (.int 2)) (wV 2)) (gNm 2))))
    (wRet (wV 1)))))
def g_bits_for : GC := gFn 1 3 w_bits_for
theorem h_bits_for {f : Addr} {fd : FuncData} (F : Fun K "bits_for" "bits_for" s_bits_for f fd) (hm : mg "bits_for" = some (.ref f)) (B : Blt mg) : Has P w K mg base "bits_for" ["size"] 1 g_bits_for := by
  refine ⟨f, fd, fn_ok F sc_bits_for 1 3 rfl rfl fun cdv A outer s H E hr => ?_, hm, F.kp, (F.binds (ps := ["size"]) fun _ _ _ _ _ _ us hl => match us, hl with | [_], _ => rfl)⟩
  have hu := hr.units
  have S := sc_bits_for
  exact (pxss_cons (pxs_set (i := 1) S.nd rfl (by first | exact .inl rfl | exact .inr rfl) px_int)
    (pxss_cons (pxs_set (i := 2) S.nd rfl (by first | exact .inl rfl | exact .inr rfl) px_int)
    (pxss_cons (pxs_while PassesOwn.never (pxt_cmp ox_ltX (px_var (pv 2)) (px_var (pv 0)) (nomark _)) (pxss_cons (pxs_set (i := 1) S.nd rfl (by first | exact .inl rfl | exact .inr rfl) (px_op ox_add (px_var (pv 1)) px_int))
    (pxss_one (pxs_set (i := 2) S.nd rfl (by first | exact .inl rfl | exact .inr rfl) (px_op ox_mulX px_int (px_var (pv 2)))))))
    (pxss_one (pxs_ret (px_var (pv 1)))))))
abbrev s_answers_of : Stmt := topS 2
abbrev N_answers_of : List Str := ["wished", "found", "answer"]
theorem sc_answers_of : FnScope N_answers_of ["wished"] (defScope s_answers_of) := ⟨rfl, rfl, rfl, by decide +kernel, rfl, by decide +kernel, by decide +kernel⟩
def w_answers_of : WS := (wSeq (wAsg (wLst wNil) (gNm 1))
    (wSeq (wFor (wV 0) (gNm 2) (wIfS (wTst (wBin (gInA true) (wV 2) (wV 1))) (wDrop (wMt gAppend (wV 1) (wCons (wV 2) wNil))) wNext))
    (wRet (wV 1))))
def g_answers_of : GC := gFn 1 3 w_answers_of
theorem h_answers_of {f : Addr} {fd : FuncData} (F : Fun K "answers_of" "answers_of" s_answers_of f fd) (hm : mg "answers_of" = some (.ref f)) (B : Blt mg) : Has P w K mg base "answers_of" ["wished"] 1 g_answers_of := by
  refine ⟨f, fd, fn_ok F sc_answers_of 1 3 rfl rfl fun cdv A outer s H E hr => ?_, hm, F.kp, (F.binds (ps := ["wished"]) fun _ _ _ _ _ _ us hl => match us, hl with | [_], _ => rfl)⟩
  have hu := hr.units
  have S := sc_answers_of
  exact (pxss_cons (pxs_set (i := 1) S.nd rfl (by first | exact .inl rfl | exact .inr rfl) (px_lst pxa_nil))
    (pxss_cons (pxs_for PassesOwn.never rfl (px_var (pv 0)) (pxg_name (pg_name (i := 2) S.nd rfl (by first | exact .inl rfl | exact .inr rfl))) (pxss_one (pxs_if (pxt_cmp (ox_notIn hu) (px_var (pv 2)) (px_var (pv 1)) rfl) (pxss_one (pxs_expr (px_mt PySem.F.slot_list_append PySem.F.type_list_append mx_append (px_var (pv 1)) (pxa_cons (px_var (pv 2)) pxa_nil)))) pxss_nil)))
    (pxss_one (pxs_ret (px_var (pv 1))))))
abbrev s_power_of : Stmt := topS 4
abbrev N_power_of : List Str := ["bits", "found", "turn"]
theorem sc_power_of : FnScope N_power_of ["bits"] (defScope s_power_of) := ⟨rfl, rfl, rfl, by decide +kernel, rfl, by decide +kernel, by decide +kernel⟩
def w_power_of : WS := (wSeq (wAsg (wC (.int 1)) (gNm 1))
    (wSeq (wForR (wCons (wV 0) wNil) (gNm 2) (wAsg (wBin gMul (wC (.int 2)) (wV 1)) (gNm 1)))
    (wRet (wV 1))))
def g_power_of : GC := gFn 1 3 w_power_of
theorem h_power_of {f : Addr} {fd : FuncData} (F : Fun K "power_of" "power_of" s_power_of f fd) (hm : mg "power_of" = some (.ref f)) (B : Blt mg) : Has P w K mg base "power_of" ["bits"] 1 g_power_of := by
  refine ⟨f, fd, fn_ok F sc_power_of 1 3 rfl rfl fun cdv A outer s H E hr => ?_, hm, F.kp, (F.binds (ps := ["bits"]) fun _ _ _ _ _ _ us hl => match us, hl with | [_], _ => rfl)⟩
  have hu := hr.units
  have S := sc_power_of
  exact (pxss_cons (pxs_set (i := 1) S.nd rfl (by first | exact .inl rfl | exact .inr rfl) px_int)
    (pxss_cons (pxs_range1 PassesOwn.never rfl (by rfl) B.range (pxa_cons (px_var (pv 0)) pxa_nil) (pxg_name (pg_name (i := 2) S.nd rfl (by first | exact .inl rfl | exact .inr rfl))) (pxss_one (pxs_set (i := 1) S.nd rfl (by first | exact .inl rfl | exact .inr rfl) (px_op ox_mulX px_int (px_var (pv 1))))))
    (pxss_one (pxs_ret (px_var (pv 1))))))
abbrev s_cost_table : Stmt := topS 3
abbrev N_cost_table : List Str := ["wished", "depth", "above", "table", "length", "told", "plain", "answer", "least"]
theorem sc_cost_table : FnScope N_cost_table ["wished"] (defScope s_cost_table) := ⟨rfl, rfl, rfl, by decide +kernel, rfl, by decide +kernel, by decide +kernel⟩
def w_cost_table : WS := (wSeq (wAsg (wCall g_bits_for (wCons (wCall gLen (wCons (wV 0) wNil)) wNil)) (gNm 1))
    (wSeq (wAsg (wBin gAdd (wLst (wCons (wC .non) wNil)) (wCall g_answers_of (wCons (wV 0) wNil))) (gNm 2))
    (wSeq (wAsg wDct (gNm 3))
    (wSeq (wForR3 (wCons (wV 1) (wCons (wUn gNeg (wC (.int 1))) (wCons (wUn gNeg (wC (.int 1))) wNil))) (gNm 4) (wForR (wCons (wCall g_power_of (wCons (wV 4) wNil)) wNil) (gNm 5) (wSeq (wAsg wDct (gNm 6))
    (wSeq (wFor (wV 2) (gNm 7) (wIfS (wTst (wBin (gEqD false) (wV 4) (wV 1))) (wAsg (wIf (wOr (wTst (wBin gGe (wV 5) (wCall gLen (wCons (wV 0) wNil)))) (wTst (wBin (gEqD false) (wBin gIxA (wV 0) (wV 5)) (wV 7)))) (wC (.int 0)) (wC (.int 1))) (gSb (wV 6) (wV 7) gSetA)) (wAsg (wBin gAdd (wBin gIxA (wV 3) (wTup (wCons (wBin gAdd (wV 4) (wC (.int 1))) (wCons (wBin gMul (wC (.int 2)) (wV 5)) (wCons (wV 7) wNil))))) (wBin gIxA (wV 3) (wTup (wCons (wBin gAdd (wV 4) (wC (.int 1))) (wCons (wBin gAdd (wBin gMul (wC (.int 2)) (wV 5)) (wC (.int 1))) (wCons (wV 7) wNil)))))) (gSb (wV 6) (wV 7) gSetA))))
    (wSeq (wAsg (wCall gMinA (wCons (wLc [7] (wSl gSl (wV 2) (wPart (wC (.int 1))) wNoP) (gNm 7) wYes (wBin gIxA (wV 6) (wV 7))) wNil)) (gNm 8))
    (wFor (wV 2) (gNm 7) (wAsg (wIf (wTst (wBin gLt (wV 4) (wV 1))) (wCall gMinA (wCons (wBin gIxA (wV 6) (wV 7)) (wCons (wBin gAdd (wC (.int 1)) (wV 8)) wNil))) (wBin gIxA (wV 6) (wV 7))) (gSb (wV 3) (wTup (wCons (wV 4) (wCons (wV 5) (wCons (wV 7) wNil)))) gSetA))))))))
    (wRet (wV 3))))))
def g_cost_table : GC := gFn 1 9 w_cost_table
theorem h_cost_table {f : Addr} {fd : FuncData} (F : Fun K "cost_table" "cost_table" s_cost_table f fd) (hm : mg "cost_table" = some (.ref f)) (B : Blt mg) (h_bits_for : Has P w K mg base "bits_for" ["size"] 1 g_bits_for) (h_answers_of : Has P w K mg base "answers_of" ["wished"] 1 g_answers_of) (h_power_of : Has P w K mg base "power_of" ["bits"] 1 g_power_of) : Has P w K mg base "cost_table" ["wished"] 2 g_cost_table := by
  have h_bits_for := h_bits_for.mono (show 1 ≤ 1 by decide)
  have h_answers_of := h_answers_of.mono (show 1 ≤ 1 by decide)
  have h_power_of := h_power_of.mono (show 1 ≤ 1 by decide)
  refine ⟨f, fd, fn_ok F sc_cost_table 1 9 rfl rfl fun cdv A outer s H E hr => ?_, hm, F.kp, (F.binds (ps := ["wished"]) fun _ _ _ _ _ _ us hl => match us, hl with | [_], _ => rfl)⟩
  have hu := hr.units
  have S := sc_cost_table
  exact (pxss_cons (pxs_set (i := 1) S.nd rfl (by first | exact .inl rfl | exact .inr rfl) (px_fnH h_bits_for hr (by rfl) (pxa_cons (px_callB cx_len (by rfl) B.len PySem.boot_len (pxa_cons (px_var (pv 0)) pxa_nil)) pxa_nil)))
    (pxss_cons (pxs_set (i := 2) S.nd rfl (by first | exact .inl rfl | exact .inr rfl) (px_op ox_add (px_lst (pxa_cons px_non pxa_nil)) (px_fnH h_answers_of hr (by rfl) (pxa_cons (px_var (pv 0)) pxa_nil))))
    (pxss_cons (pxs_set (i := 3) S.nd rfl (by first | exact .inl rfl | exact .inr rfl) px_dnew)
    (pxss_cons (pxs_range3 PassesOwn.never rfl (by rfl) B.range (pxa_cons (px_var (pv 1)) (pxa_cons (px_un ux_negX px_int) (pxa_cons (px_un ux_negX px_int) pxa_nil))) (pxg_name (pg_name (i := 4) S.nd rfl (by first | exact .inl rfl | exact .inr rfl))) (pxss_one (pxs_range1 PassesOwn.never rfl (by rfl) B.range (pxa_cons (px_fnH h_power_of hr (by rfl) (pxa_cons (px_var (pv 4)) pxa_nil)) pxa_nil) (pxg_name (pg_name (i := 5) S.nd rfl (by first | exact .inl rfl | exact .inr rfl))) (pxss_cons (pxs_set (i := 6) S.nd rfl (by first | exact .inl rfl | exact .inr rfl) px_dnew)
    (pxss_cons (pxs_for PassesOwn.never rfl (px_var (pv 2)) (pxg_name (pg_name (i := 7) S.nd rfl (by first | exact .inl rfl | exact .inr rfl))) (pxss_one (pxs_if (pxt_cmp (ox_eq hu) (px_var (pv 4)) (px_var (pv 1)) (nomark _)) (pxss_one (pxs_asg (px_if (PXW.pxt (pxw_or (pxt_cmp ox_geX (px_var (pv 5)) (px_callB cx_len (by rfl) B.len PySem.boot_len (pxa_cons (px_var (pv 0)) pxa_nil)) (nomark _)) (pxw_or1 (pxt_cmp (ox_eq hu) (px_ix (ix_any hu) (px_var (pv 0)) (px_var (pv 5)) (fun _ _ => rfl)) (px_var (pv 7)) (nomark _))))) px_int px_int) (pxg_sub (px_var (pv 6)) (px_var (pv 7)) (sx_any hu)))) (pxss_one (pxs_asg (px_op ox_add (px_ix (ix_any hu) (px_var (pv 3)) (px_tup (pxa_cons (px_op ox_add (px_var (pv 4)) px_int) (pxa_cons (px_op ox_mulX px_int (px_var (pv 5))) (pxa_cons (px_var (pv 7)) pxa_nil)))) (fun _ _ => rfl)) (px_ix (ix_any hu) (px_var (pv 3)) (px_tup (pxa_cons (px_op ox_add (px_var (pv 4)) px_int) (pxa_cons (px_op ox_add (px_op ox_mulX px_int (px_var (pv 5))) px_int) (pxa_cons (px_var (pv 7)) pxa_nil)))) (fun _ _ => rfl))) (pxg_sub (px_var (pv 6)) (px_var (pv 7)) (sx_any hu)))))))
    (pxss_cons (pxs_set (i := 8) S.nd rfl (by first | exact .inl rfl | exact .inr rfl) (px_callB (cx_minA rfl) (by rfl) B.min PyProof.Rows.boot_min (pxa_cons (px_lc (own := [(Str.ofString "answer", 7)]) rfl S.nd (px_slice (px_var (pv 2)) (pxo_some px_int) pxo_none) (show BlkOk N_cost_table (defScope s_cost_table) _ [(Str.ofString "answer", 7)] from ⟨rfl, by decide +kernel, by decide +kernel, by decide +kernel, by decide +kernel⟩) (fun _ _ _ _ _ => (pg_name (i := 7) S.nd rfl (by first | exact .inl rfl | exact .inr rfl))) (simg_name (by decide)) (fun _ _ _ _ _ => pxts_nil) (fun _ _ _ _ _ => (px_ix (ix_any hu) (px_var (pv 6)) (px_var (pv 7)) (fun _ _ => rfl)))) pxa_nil)))
    (pxss_one (pxs_for PassesOwn.never rfl (px_var (pv 2)) (pxg_name (pg_name (i := 7) S.nd rfl (by first | exact .inl rfl | exact .inr rfl))) (pxss_one (pxs_asg (px_if (pxt_cmp ox_ltX (px_var (pv 4)) (px_var (pv 1)) (nomark _)) (px_callB (cx_minA rfl) (by rfl) B.min PyProof.Rows.boot_min (pxa_cons (px_ix (ix_any hu) (px_var (pv 6)) (px_var (pv 7)) (fun _ _ => rfl)) (pxa_cons (px_op ox_add px_int (px_var (pv 8))) pxa_nil))) (px_ix (ix_any hu) (px_var (pv 6)) (px_var (pv 7)) (fun _ _ => rfl))) (pxg_sub (px_var (pv 3)) (px_tup (pxa_cons (px_var (pv 4)) (pxa_cons (px_var (pv 5)) (pxa_cons (px_var (pv 7)) pxa_nil)))) (sx_any hu))))))))))))
    (pxss_one (pxs_ret (px_var (pv 3))))))))
abbrev s_least_prefixes : Stmt := topS 5
abbrev N_least_prefixes : List Str := ["wished", "depth", "costs", "names", "rows", "waiting", "length", "told", "answer", "kept", "sums", "one"]
theorem sc_least_prefixes : FnScope N_least_prefixes ["wished"] (defScope s_least_prefixes) := ⟨rfl, rfl, rfl, by decide +kernel, rfl, by decide +kernel, by decide +kernel⟩
def w_least_prefixes : WS := (wSeq (wAsg (wCall g_bits_for (wCons (wCall gLen (wCons (wV 0) wNil)) wNil)) (gNm 1))
    (wSeq (wAsg (wCall g_cost_table (wCons (wV 0) wNil)) (gNm 2))
    (wSeq (wAsg (wCall g_answers_of (wCons (wV 0) wNil)) (gNm 3))
    (wSeq (wAsg (wLst wNil) (gNm 4))
    (wSeq (wAsg (wLst (wCons (wTup (wCons (wC (.int 0)) (wCons (wC (.int 0)) (wCons (wC .non) wNil)))) wNil)) (gNm 5))
    (wSeq (wWhile (wTru (wV 5)) (wSeq (wAsg (wMt gPop (wV 5) wNil) (gTp 3 (gsCons (gNm 6) (gsCons (gNm 7) (gsCons (gNm 8) gsNil)))))
    (wSeq (wIfS (wTst (wBin (gEqD false) (wV 6) (wV 1))) (wSeq (wIfS (wAnd (wTst (wBin gLt (wV 7) (wCall gLen (wCons (wV 0) wNil)))) (wTst (wBin (gEqD true) (wBin gIxA (wV 0) (wV 7)) (wV 8)))) (wDrop (wMt gAppend (wV 4) (wCons (wTup (wCons (wV 6) (wCons (wV 7) (wCons (wBin gIxA (wV 0) (wV 7)) wNil)))) wNil))) wNext)
    wCnt) wNext)
    (wSeq (wAsg (wBin gAdd (wBin gIxA (wV 2) (wTup (wCons (wBin gAdd (wV 6) (wC (.int 1))) (wCons (wBin gMul (wC (.int 2)) (wV 7)) (wCons (wV 8) wNil))))) (wBin gIxA (wV 2) (wTup (wCons (wBin gAdd (wV 6) (wC (.int 1))) (wCons (wBin gAdd (wBin gMul (wC (.int 2)) (wV 7)) (wC (.int 1))) (wCons (wV 8) wNil)))))) (gNm 9))
    (wSeq (wIfS (wTst (wBin gGt (wV 9) (wBin gIxA (wV 2) (wTup (wCons (wV 6) (wCons (wV 7) (wCons (wV 8) wNil))))))) (wSeq (wAsg (wLc [11] (wV 3) (gNm 11) wYes (wBin gAdd (wBin gIxA (wV 2) (wTup (wCons (wBin gAdd (wV 6) (wC (.int 1))) (wCons (wBin gMul (wC (.int 2)) (wV 7)) (wCons (wV 11) wNil))))) (wBin gIxA (wV 2) (wTup (wCons (wBin gAdd (wV 6) (wC (.int 1))) (wCons (wBin gAdd (wBin gMul (wC (.int 2)) (wV 7)) (wC (.int 1))) (wCons (wV 11) wNil))))))) (gNm 10))
    (wSeq (wAsg (wBin gIxA (wV 3) (wMt gIndex (wV 10) (wCons (wCall gMinA (wCons (wV 10) wNil)) wNil))) (gNm 8))
    (wDrop (wMt gAppend (wV 4) (wCons (wTup (wCons (wV 6) (wCons (wV 7) (wCons (wV 8) wNil)))) wNil))))) wNext)
    (wDrop (wMt gExtend (wV 5) (wCons (wLst (wCons (wTup (wCons (wBin gAdd (wV 6) (wC (.int 1))) (wCons (wBin gMul (wC (.int 2)) (wV 7)) (wCons (wV 8) wNil)))) (wCons (wTup (wCons (wBin gAdd (wV 6) (wC (.int 1))) (wCons (wBin gAdd (wBin gMul (wC (.int 2)) (wV 7)) (wC (.int 1))) (wCons (wV 8) wNil)))) wNil))) wNil))))))))
    (wRet (wTup (wCons (wCall gTuple (wCons (wCall gSorted (wCons (wV 4) wNil)) wNil)) (wCons (wV 2) wNil))))))))))
def g_least_prefixes : GC := gFn 1 12 w_least_prefixes
theorem h_least_prefixes {f : Addr} {fd : FuncData} (F : Fun K "least_prefixes" "least_prefixes" s_least_prefixes f fd) (hm : mg "least_prefixes" = some (.ref f)) (B : Blt mg) (h_bits_for : Has P w K mg base "bits_for" ["size"] 1 g_bits_for) (h_cost_table : Has P w K mg base "cost_table" ["wished"] 2 g_cost_table) (h_answers_of : Has P w K mg base "answers_of" ["wished"] 1 g_answers_of) : Has P w K mg base "least_prefixes" ["wished"] 3 g_least_prefixes := by
  have h_bits_for := h_bits_for.mono (show 1 ≤ 2 by decide)
  have h_cost_table := h_cost_table.mono (show 2 ≤ 2 by decide)
  have h_answers_of := h_answers_of.mono (show 1 ≤ 2 by decide)
  refine ⟨f, fd, fn_ok F sc_least_prefixes 1 12 rfl rfl fun cdv A outer s H E hr => ?_, hm, F.kp, (F.binds (ps := ["wished"]) fun _ _ _ _ _ _ us hl => match us, hl with | [_], _ => rfl)⟩
  have hu := hr.units
  have S := sc_least_prefixes
  exact (pxss_cons (pxs_set (i := 1) S.nd rfl (by first | exact .inl rfl | exact .inr rfl) (px_fnH h_bits_for hr (by rfl) (pxa_cons (px_callB cx_len (by rfl) B.len PySem.boot_len (pxa_cons (px_var (pv 0)) pxa_nil)) pxa_nil)))
    (pxss_cons (pxs_set (i := 2) S.nd rfl (by first | exact .inl rfl | exact .inr rfl) (px_fnH h_cost_table hr (by rfl) (pxa_cons (px_var (pv 0)) pxa_nil)))
    (pxss_cons (pxs_set (i := 3) S.nd rfl (by first | exact .inl rfl | exact .inr rfl) (px_fnH h_answers_of hr (by rfl) (pxa_cons (px_var (pv 0)) pxa_nil)))
    (pxss_cons (pxs_set (i := 4) S.nd rfl (by first | exact .inl rfl | exact .inr rfl) (px_lst pxa_nil))
    (pxss_cons (pxs_set (i := 5) S.nd rfl (by first | exact .inl rfl | exact .inr rfl) (px_lst (pxa_cons (px_tup (pxa_cons px_int (pxa_cons px_int (pxa_cons px_non pxa_nil)))) pxa_nil)))
    (pxss_cons (pxs_while PassesOwn.never (pxt_tru (px_var (pv 5)) (fun _ => rfl)) (pxss_cons (pxs_asg (px_mt0 PySem.F.slot_list_pop PySem.F.type_list_pop mx_pop (px_var (pv 5))) (pxg_tup rfl (pxgs_cons (pxg_name (pg_name (i := 6) S.nd rfl (by first | exact .inl rfl | exact .inr rfl))) (pxgs_cons (pxg_name (pg_name (i := 7) S.nd rfl (by first | exact .inl rfl | exact .inr rfl))) (pxgs_cons (pxg_name (pg_name (i := 8) S.nd rfl (by first | exact .inl rfl | exact .inr rfl))) pxgs_nil)))))
    (pxss_cons (pxs_if (pxt_cmp (ox_eq hu) (px_var (pv 6)) (px_var (pv 1)) (nomark _)) (pxss_cons (pxs_if (PXW.pxt (pxw_and (pxt_cmp ox_ltX (px_var (pv 7)) (px_callB cx_len (by rfl) B.len PySem.boot_len (pxa_cons (px_var (pv 0)) pxa_nil)) (nomark _)) (pxw_and1 (pxt_cmp (ox_ne hu) (px_ix (ix_any hu) (px_var (pv 0)) (px_var (pv 7)) (fun _ _ => rfl)) (px_var (pv 8)) (nomark _))))) (pxss_one (pxs_expr (px_mt PySem.F.slot_list_append PySem.F.type_list_append mx_append (px_var (pv 4)) (pxa_cons (px_tup (pxa_cons (px_var (pv 6)) (pxa_cons (px_var (pv 7)) (pxa_cons (px_ix (ix_any hu) (px_var (pv 0)) (px_var (pv 7)) (fun _ _ => rfl)) pxa_nil)))) pxa_nil)))) pxss_nil)
    (pxss_one pxs_continue)) pxss_nil)
    (pxss_cons (pxs_set (i := 9) S.nd rfl (by first | exact .inl rfl | exact .inr rfl) (px_op ox_add (px_ix (ix_any hu) (px_var (pv 2)) (px_tup (pxa_cons (px_op ox_add (px_var (pv 6)) px_int) (pxa_cons (px_op ox_mulX px_int (px_var (pv 7))) (pxa_cons (px_var (pv 8)) pxa_nil)))) (fun _ _ => rfl)) (px_ix (ix_any hu) (px_var (pv 2)) (px_tup (pxa_cons (px_op ox_add (px_var (pv 6)) px_int) (pxa_cons (px_op ox_add (px_op ox_mulX px_int (px_var (pv 7))) px_int) (pxa_cons (px_var (pv 8)) pxa_nil)))) (fun _ _ => rfl))))
    (pxss_cons (pxs_if (pxt_cmp (ox_gt hu) (px_var (pv 9)) (px_ix (ix_any hu) (px_var (pv 2)) (px_tup (pxa_cons (px_var (pv 6)) (pxa_cons (px_var (pv 7)) (pxa_cons (px_var (pv 8)) pxa_nil)))) (fun _ _ => rfl)) (nomark _)) (pxss_cons (pxs_setLc (i := 10) (own := [(Str.ofString "one", 11)]) rfl S.nd rfl rfl rfl (px_var (pv 3)) (show BlkOk N_least_prefixes (defScope s_least_prefixes) _ [(Str.ofString "one", 11)] from ⟨rfl, by decide +kernel, by decide +kernel, by decide +kernel, by decide +kernel⟩) (fun _ _ _ _ _ => (pg_name (i := 11) S.nd rfl (by first | exact .inl rfl | exact .inr rfl))) (simg_name (by decide)) (fun _ _ _ _ _ => pxts_nil) (fun _ _ _ _ _ => (px_op ox_add (px_ix (ix_any hu) (px_var (pv 2)) (px_tup (pxa_cons (px_op ox_add (px_var (pv 6)) px_int) (pxa_cons (px_op ox_mulX px_int (px_var (pv 7))) (pxa_cons (px_var (pv 11)) pxa_nil)))) (fun _ _ => rfl)) (px_ix (ix_any hu) (px_var (pv 2)) (px_tup (pxa_cons (px_op ox_add (px_var (pv 6)) px_int) (pxa_cons (px_op ox_add (px_op ox_mulX px_int (px_var (pv 7))) px_int) (pxa_cons (px_var (pv 11)) pxa_nil)))) (fun _ _ => rfl)))))
    (pxss_cons (pxs_set (i := 8) S.nd rfl (by first | exact .inl rfl | exact .inr rfl) (px_ix (ix_any hu) (px_var (pv 3)) (px_mt PySem.F.slot_list_index PySem.F.type_list_index mx_index (px_var (pv 10)) (pxa_cons (px_callB (cx_minA rfl) (by rfl) B.min PyProof.Rows.boot_min (pxa_cons (px_var (pv 10)) pxa_nil)) pxa_nil)) (fun _ _ => rfl)))
    (pxss_one (pxs_expr (px_mt PySem.F.slot_list_append PySem.F.type_list_append mx_append (px_var (pv 4)) (pxa_cons (px_tup (pxa_cons (px_var (pv 6)) (pxa_cons (px_var (pv 7)) (pxa_cons (px_var (pv 8)) pxa_nil)))) pxa_nil)))))) pxss_nil)
    (pxss_one (pxs_expr (px_mt PySem.F.slot_list_extend PySem.F.type_list_extend mx_extend (px_var (pv 5)) (pxa_cons (px_lst (pxa_cons (px_tup (pxa_cons (px_op ox_add (px_var (pv 6)) px_int) (pxa_cons (px_op ox_mulX px_int (px_var (pv 7))) (pxa_cons (px_var (pv 8)) pxa_nil)))) (pxa_cons (px_tup (pxa_cons (px_op ox_add (px_var (pv 6)) px_int) (pxa_cons (px_op ox_add (px_op ox_mulX px_int (px_var (pv 7))) px_int) (pxa_cons (px_var (pv 8)) pxa_nil)))) pxa_nil))) pxa_nil)))))))))
    (pxss_one (pxs_ret (px_tup (pxa_cons (px_callTy cx_tuple (by rfl) B.tuple PyProof.Rows.boot_tuple (pxa_cons (px_callB (cx_sorted hu) (by rfl) B.sorted PyProof.Rows.boot_sorted (pxa_cons (px_var (pv 4)) pxa_nil)) pxa_nil)) (pxa_cons (px_var (pv 2)) pxa_nil)))))))))))
abbrev s_fitting : Stmt := topS 6
abbrev N_fitting : List Str := ["rows", "depth", "value", "found", "longest", "length", "told", "answer"]
theorem sc_fitting : FnScope N_fitting ["rows", "depth", "value"] (defScope s_fitting) := ⟨rfl, rfl, rfl, by decide +kernel, rfl, by decide +kernel, by decide +kernel⟩
def w_fitting : WS := (wSeq (wAsg (wC .non) (gNm 3))
    (wSeq (wAsg (wUn gNeg (wC (.int 1))) (gNm 4))
    (wSeq (wFor (wV 0) (gTp 3 (gsCons (gNm 5) (gsCons (gNm 6) (gsCons (gNm 7) gsNil)))) (wIfS (wAnd (wTst (wBin gGt (wV 5) (wV 4))) (wTst (wBin (gEqD false) (wBin gFdiv (wV 2) (wCall g_power_of (wCons (wBin gSub (wV 1) (wV 5)) wNil))) (wV 6)))) (wSeq (wAsg (wV 7) (gNm 3))
    (wAsg (wV 5) (gNm 4))) wNext))
    (wRet (wV 3)))))
def g_fitting : GC := gFn 3 8 w_fitting
theorem h_fitting {f : Addr} {fd : FuncData} (F : Fun K "fitting" "fitting" s_fitting f fd) (hm : mg "fitting" = some (.ref f)) (B : Blt mg) (h_power_of : Has P w K mg base "power_of" ["bits"] 1 g_power_of) : Has P w K mg base "fitting" ["rows", "depth", "value"] 2 g_fitting := by
  have h_power_of := h_power_of.mono (show 1 ≤ 1 by decide)
  refine ⟨f, fd, fn_ok F sc_fitting 3 8 rfl rfl fun cdv A outer s H E hr => ?_, hm, F.kp, (F.binds (ps := ["rows", "depth", "value"]) fun _ _ _ _ _ _ us hl => match us, hl with | [_, _, _], _ => rfl)⟩
  have hu := hr.units
  have S := sc_fitting
  exact (pxss_cons (pxs_set (i := 3) S.nd rfl (by first | exact .inl rfl | exact .inr rfl) px_non)
    (pxss_cons (pxs_set (i := 4) S.nd rfl (by first | exact .inl rfl | exact .inr rfl) (px_un ux_negX px_int))
    (pxss_cons (pxs_for PassesOwn.never rfl (px_var (pv 0)) (pxg_tup rfl (pxgs_cons (pxg_name (pg_name (i := 5) S.nd rfl (by first | exact .inl rfl | exact .inr rfl))) (pxgs_cons (pxg_name (pg_name (i := 6) S.nd rfl (by first | exact .inl rfl | exact .inr rfl))) (pxgs_cons (pxg_name (pg_name (i := 7) S.nd rfl (by first | exact .inl rfl | exact .inr rfl))) pxgs_nil)))) (pxss_one (pxs_if (PXW.pxt (pxw_and (pxt_cmp (ox_gt hu) (px_var (pv 5)) (px_var (pv 4)) (nomark _)) (pxw_and1 (pxt_cmp (ox_eq hu) (px_op ox_fdivX (px_var (pv 2)) (px_fnH h_power_of hr (by rfl) (pxa_cons (px_op ox_subX (px_var (pv 1)) (px_var (pv 5))) pxa_nil))) (px_var (pv 6)) (nomark _))))) (pxss_cons (pxs_set (i := 3) S.nd rfl (by first | exact .inl rfl | exact .inr rfl) (px_var (pv 7)))
    (pxss_one (pxs_set (i := 4) S.nd rfl (by first | exact .inl rfl | exact .inr rfl) (px_var (pv 5))))) pxss_nil)))
    (pxss_one (pxs_ret (px_var (pv 3)))))))
abbrev s_l_mixed : Stmt := topS 8
abbrev N_l_mixed : List Str := ["number", "place", "first", "second", "third"]
theorem sc_l_mixed : FnScope N_l_mixed ["number", "place"] (defScope s_l_mixed) := ⟨rfl, rfl, rfl, by decide +kernel, rfl, by decide +kernel, by decide +kernel⟩
def w_l_mixed : WS := (wSeq (wAsg (wBin gMod (wCall gInt (wCons (wBin gAdd (wBin gAdd (wBin gMul (wV 0) (wC (.int 48271))) (wBin gMul (wV 1) (wC (.int 69621)))) (wC (.int 11))) wNil)) (wC (.int 618970019642690137449562111))) (gNm 2))
    (wSeq (wAsg (wBin gMod (wCall gInt (wCons (wBin gAdd (wBin gAdd (wBin gMul (wV 2) (wV 2)) (wBin gMul (wC (.int 7)) (wV 2))) (wV 1)) wNil)) (wC (.int 162259276829213363391578010288127))) (gNm 3))
    (wSeq (wAsg (wBin gMod (wCall gInt (wCons (wBin gAdd (wBin gMul (wV 3) (wV 3)) (wV 2)) wNil)) (wC (.int 618970019642690137449562111))) (gNm 4))
    (wRet (wBin gAdd (wBin gMul (wV 3) (wC (.int 618970019642690137449562111))) (wV 4))))))
def g_l_mixed : GC := gFn 2 5 w_l_mixed
theorem h_l_mixed {f : Addr} {fd : FuncData} (F : Fun K "_law_mixed" "_law_mixed" s_l_mixed f fd) (hm : mg "_law_mixed" = some (.ref f)) (B : Blt mg) : Has P w K mg base "_law_mixed" ["number", "place"] 1 g_l_mixed := by
  refine ⟨f, fd, fn_ok F sc_l_mixed 2 5 rfl rfl fun cdv A outer s H E hr => ?_, hm, F.kp, (F.binds (ps := ["number", "place"]) fun _ _ _ _ _ _ us hl => match us, hl with | [_, _], _ => rfl)⟩
  have hu := hr.units
  have S := sc_l_mixed
  exact (pxss_cons (pxs_set (i := 2) S.nd rfl (by first | exact .inl rfl | exact .inr rfl) (px_op ox_modX (px_callTy cx_int (by rfl) B.int PyProof.Rows.boot_int (pxa_cons (px_op ox_add (px_op ox_add (px_op ox_mulX (px_var (pv 0)) px_int) (px_op ox_mulX (px_var (pv 1)) px_int)) px_int) pxa_nil)) px_int))
    (pxss_cons (pxs_set (i := 3) S.nd rfl (by first | exact .inl rfl | exact .inr rfl) (px_op ox_modX (px_callTy cx_int (by rfl) B.int PyProof.Rows.boot_int (pxa_cons (px_op ox_add (px_op ox_add (px_op ox_mulX (px_var (pv 2)) (px_var (pv 2))) (px_op ox_mulX px_int (px_var (pv 2)))) (px_var (pv 1))) pxa_nil)) px_int))
    (pxss_cons (pxs_set (i := 4) S.nd rfl (by first | exact .inl rfl | exact .inr rfl) (px_op ox_modX (px_callTy cx_int (by rfl) B.int PyProof.Rows.boot_int (pxa_cons (px_op ox_add (px_op ox_mulX (px_var (pv 3)) (px_var (pv 3))) (px_var (pv 2))) pxa_nil)) px_int))
    (pxss_one (pxs_ret (px_op ox_add (px_op ox_mulX (px_var (pv 3)) px_int) (px_var (pv 4))))))))
abbrev s_l_rest : Stmt := topS 9
abbrev N_l_rest : List Str := ["script", "place", "fills", "number"]
theorem sc_l_rest : FnScope N_l_rest ["script", "place", "fills"] (defScope s_l_rest) := ⟨rfl, rfl, rfl, by decide +kernel, rfl, by decide +kernel, by decide +kernel⟩
def w_l_rest : WS := (wSeq (wAsg (wC (.int 0)) (gNm 3))
    (wSeq (wIfS (wTst (wBin gGt (wCall gLen (wCons (wV 0) wNil)) (wC (.int 0)))) (wAsg (wCall gInt (wCons (wBin gIxA (wV 0) (wBin gMod (wCall gInt (wCons (wV 1) wNil)) (wCall gLen (wCons (wV 0) wNil)))) wNil)) (gNm 3)) wNext)
    (wSeq (wIfS (wTst (wBin gLt (wV 3) (wC (.int 0)))) (wAsg (wBin gSub (wC (.int 1)) (wBin gMul (wC (.int 2)) (wV 3))) (gNm 3)) wNext)
    (wSeq (wIfS (wAnd (wTst (wBin (gEqD false) (wV 2) (wC (.int 0)))) (wAnd (wTst (wBin gLt (wV 1) (wCall gLen (wCons (wV 0) wNil)))) (wTst (wBin gGe (wV 3) (wBin gPow (wC (.int 10)) (wC (.int 18))))))) (wRet (wBin gSub (wV 3) (wBin gPow (wC (.int 10)) (wC (.int 18))))) wNext)
    (wRet (wCall g_l_mixed (wCons (wBin gAdd (wV 3) (wBin gMul (wV 2) (wC (.int 1000003)))) (wCons (wV 1) wNil))))))))
def g_l_rest : GC := gFn 3 4 w_l_rest
theorem h_l_rest {f : Addr} {fd : FuncData} (F : Fun K "_law_rest" "_law_rest" s_l_rest f fd) (hm : mg "_law_rest" = some (.ref f)) (B : Blt mg) (h_l_mixed : Has P w K mg base "_law_mixed" ["number", "place"] 1 g_l_mixed) : Has P w K mg base "_law_rest" ["script", "place", "fills"] 2 g_l_rest := by
  have h_l_mixed := h_l_mixed.mono (show 1 ≤ 1 by decide)
  refine ⟨f, fd, fn_ok F sc_l_rest 3 4 rfl rfl fun cdv A outer s H E hr => ?_, hm, F.kp, (F.binds (ps := ["script", "place", "fills"]) fun _ _ _ _ _ _ us hl => match us, hl with | [_, _, _], _ => rfl)⟩
  have hu := hr.units
  have S := sc_l_rest
  exact (pxss_cons (pxs_set (i := 3) S.nd rfl (by first | exact .inl rfl | exact .inr rfl) px_int)
    (pxss_cons (pxs_if (pxt_cmp (ox_gt hu) (px_callB cx_len (by rfl) B.len PySem.boot_len (pxa_cons (px_var (pv 0)) pxa_nil)) px_int (nomark _)) (pxss_one (pxs_set (i := 3) S.nd rfl (by first | exact .inl rfl | exact .inr rfl) (px_callTy cx_int (by rfl) B.int PyProof.Rows.boot_int (pxa_cons (px_ix (ix_any hu) (px_var (pv 0)) (px_op ox_modX (px_callTy cx_int (by rfl) B.int PyProof.Rows.boot_int (pxa_cons (px_var (pv 1)) pxa_nil)) (px_callB cx_len (by rfl) B.len PySem.boot_len (pxa_cons (px_var (pv 0)) pxa_nil))) (fun _ _ => rfl)) pxa_nil)))) pxss_nil)
    (pxss_cons (pxs_if (pxt_cmp ox_ltX (px_var (pv 3)) px_int (nomark _)) (pxss_one (pxs_set (i := 3) S.nd rfl (by first | exact .inl rfl | exact .inr rfl) (px_op ox_subX px_int (px_op ox_mulX px_int (px_var (pv 3)))))) pxss_nil)
    (pxss_cons (pxs_if (PXW.pxt (pxw_and (pxt_cmp (ox_eq hu) (px_var (pv 2)) px_int (nomark _)) (pxw_and (pxt_cmp ox_ltX (px_var (pv 1)) (px_callB cx_len (by rfl) B.len PySem.boot_len (pxa_cons (px_var (pv 0)) pxa_nil)) (nomark _)) (pxw_and1 (pxt_cmp ox_geX (px_var (pv 3)) (px_op ox_powX px_int px_int) (nomark _)))))) (pxss_one (pxs_ret (px_op ox_subX (px_var (pv 3)) (px_op ox_powX px_int px_int)))) pxss_nil)
    (pxss_one (pxs_ret (px_fnH h_l_mixed hr (by rfl) (pxa_cons (px_op ox_add (px_var (pv 3)) (px_op ox_mulX (px_var (pv 2)) px_int)) (pxa_cons (px_var (pv 1)) pxa_nil)))))))))
abbrev s_l_pool : Stmt := topS 10
abbrev N_l_pool : List Str := ["script"]
theorem sc_l_pool : FnScope N_l_pool ["script"] (defScope s_l_pool) := ⟨rfl, rfl, rfl, by decide +kernel, rfl, by decide +kernel, by decide +kernel⟩
def w_l_pool : WS := (wRet (wLst (wCons (wV 0) (wCons (wC (.int 0)) (wCons (wCall g_l_rest (wCons (wV 0) (wCons (wC (.int 0)) (wCons (wC (.int 0)) wNil)))) (wCons (wC (.int 0)) wNil))))))
def g_l_pool : GC := gFn 1 1 w_l_pool
theorem h_l_pool {f : Addr} {fd : FuncData} (F : Fun K "_law_pool" "_law_pool" s_l_pool f fd) (hm : mg "_law_pool" = some (.ref f)) (B : Blt mg) (h_l_rest : Has P w K mg base "_law_rest" ["script", "place", "fills"] 2 g_l_rest) : Has P w K mg base "_law_pool" ["script"] 3 g_l_pool := by
  have h_l_rest := h_l_rest.mono (show 2 ≤ 2 by decide)
  refine ⟨f, fd, fn_ok F sc_l_pool 1 1 rfl rfl fun cdv A outer s H E hr => ?_, hm, F.kp, (F.binds (ps := ["script"]) fun _ _ _ _ _ _ us hl => match us, hl with | [_], _ => rfl)⟩
  have hu := hr.units
  have S := sc_l_pool
  exact (pxss_one (pxs_ret (px_lst (pxa_cons (px_var (pv 0)) (pxa_cons px_int (pxa_cons (px_fnH h_l_rest hr (by rfl) (pxa_cons (px_var (pv 0)) (pxa_cons px_int (pxa_cons px_int pxa_nil)))) (pxa_cons px_int pxa_nil)))))))
abbrev s_l_next : Stmt := topS 11
abbrev N_l_next : List Str := ["pool"]
theorem sc_l_next : FnScope N_l_next ["pool"] (defScope s_l_next) := ⟨rfl, rfl, rfl, by decide +kernel, rfl, by decide +kernel, by decide +kernel⟩
def w_l_next : WS := (wSeq (wAsg (wBin gAdd (wBin gIxA (wV 0) (wC (.int 1))) (wC (.int 1))) (gSb (wV 0) (wC (.int 1)) gSetA))
    (wSeq (wAsg (wCall g_l_rest (wCons (wBin gIxA (wV 0) (wC (.int 0))) (wCons (wBin gIxA (wV 0) (wC (.int 1))) (wCons (wC (.int 0)) wNil)))) (gSb (wV 0) (wC (.int 2)) gSetA))
    (wAsg (wC (.int 0)) (gSb (wV 0) (wC (.int 3)) gSetA))))
def g_l_next : GC := gFn 1 1 w_l_next
theorem h_l_next {f : Addr} {fd : FuncData} (F : Fun K "_law_next" "_law_next" s_l_next f fd) (hm : mg "_law_next" = some (.ref f)) (B : Blt mg) (h_l_rest : Has P w K mg base "_law_rest" ["script", "place", "fills"] 2 g_l_rest) : Has P w K mg base "_law_next" ["pool"] 3 g_l_next := by
  have h_l_rest := h_l_rest.mono (show 2 ≤ 2 by decide)
  refine ⟨f, fd, fn_ok F sc_l_next 1 1 rfl rfl fun cdv A outer s H E hr => ?_, hm, F.kp, (F.binds (ps := ["pool"]) fun _ _ _ _ _ _ us hl => match us, hl with | [_], _ => rfl)⟩
  have hu := hr.units
  have S := sc_l_next
  exact (pxss_cons (pxs_asg (px_op ox_add (px_ix (ix_any hu) (px_var (pv 0)) px_int (fun _ _ => rfl)) px_int) (pxg_sub (px_var (pv 0)) px_int (sx_any hu)))
    (pxss_cons (pxs_asg (px_fnH h_l_rest hr (by rfl) (pxa_cons (px_ix (ix_any hu) (px_var (pv 0)) px_int (fun _ _ => rfl)) (pxa_cons (px_ix (ix_any hu) (px_var (pv 0)) px_int (fun _ _ => rfl)) (pxa_cons px_int pxa_nil)))) (pxg_sub (px_var (pv 0)) px_int (sx_any hu)))
    (pxss_one (pxs_asg px_int (pxg_sub (px_var (pv 0)) px_int (sx_any hu))))))
abbrev s_l_draw : Stmt := topS 12
abbrev N_l_draw : List Str := ["pool", "limit", "value"]
theorem sc_l_draw : FnScope N_l_draw ["pool", "limit"] (defScope s_l_draw) := ⟨rfl, rfl, rfl, by decide +kernel, rfl, by decide +kernel, by decide +kernel⟩
def w_l_draw : WS := (wSeq (wIfS (wTst (wBin gLe (wBin gIxA (wV 0) (wC (.int 2))) (wC (.int 1)))) (wSeq (wAsg (wBin gAdd (wBin gIxA (wV 0) (wC (.int 3))) (wC (.int 1))) (gSb (wV 0) (wC (.int 3)) gSetA))
    (wAsg (wCall g_l_rest (wCons (wBin gIxA (wV 0) (wC (.int 0))) (wCons (wBin gIxA (wV 0) (wC (.int 1))) (wCons (wBin gIxA (wV 0) (wC (.int 3))) wNil)))) (gSb (wV 0) (wC (.int 2)) gSetA))) wNext)
    (wSeq (wAsg (wBin gMod (wCall gInt (wCons (wBin gIxA (wV 0) (wC (.int 2))) wNil)) (wV 1)) (gNm 2))
    (wSeq (wAsg (wBin gFdiv (wCall gInt (wCons (wBin gIxA (wV 0) (wC (.int 2))) wNil)) (wV 1)) (gSb (wV 0) (wC (.int 2)) gSetA))
    (wRet (wV 2)))))
def g_l_draw : GC := gFn 2 3 w_l_draw
theorem h_l_draw {f : Addr} {fd : FuncData} (F : Fun K "_law_draw" "_law_draw" s_l_draw f fd) (hm : mg "_law_draw" = some (.ref f)) (B : Blt mg) (h_l_rest : Has P w K mg base "_law_rest" ["script", "place", "fills"] 2 g_l_rest) : Has P w K mg base "_law_draw" ["pool", "limit"] 3 g_l_draw := by
  have h_l_rest := h_l_rest.mono (show 2 ≤ 2 by decide)
  refine ⟨f, fd, fn_ok F sc_l_draw 2 3 rfl rfl fun cdv A outer s H E hr => ?_, hm, F.kp, (F.binds (ps := ["pool", "limit"]) fun _ _ _ _ _ _ us hl => match us, hl with | [_, _], _ => rfl)⟩
  have hu := hr.units
  have S := sc_l_draw
  exact (pxss_cons (pxs_if (pxt_cmp ox_leX (px_ix (ix_any hu) (px_var (pv 0)) px_int (fun _ _ => rfl)) px_int (nomark _)) (pxss_cons (pxs_asg (px_op ox_add (px_ix (ix_any hu) (px_var (pv 0)) px_int (fun _ _ => rfl)) px_int) (pxg_sub (px_var (pv 0)) px_int (sx_any hu)))
    (pxss_one (pxs_asg (px_fnH h_l_rest hr (by rfl) (pxa_cons (px_ix (ix_any hu) (px_var (pv 0)) px_int (fun _ _ => rfl)) (pxa_cons (px_ix (ix_any hu) (px_var (pv 0)) px_int (fun _ _ => rfl)) (pxa_cons (px_ix (ix_any hu) (px_var (pv 0)) px_int (fun _ _ => rfl)) pxa_nil)))) (pxg_sub (px_var (pv 0)) px_int (sx_any hu))))) pxss_nil)
    (pxss_cons (pxs_set (i := 2) S.nd rfl (by first | exact .inl rfl | exact .inr rfl) (px_op ox_modX (px_callTy cx_int (by rfl) B.int PyProof.Rows.boot_int (pxa_cons (px_ix (ix_any hu) (px_var (pv 0)) px_int (fun _ _ => rfl)) pxa_nil)) (px_var (pv 1))))
    (pxss_cons (pxs_asg (px_op ox_fdivX (px_callTy cx_int (by rfl) B.int PyProof.Rows.boot_int (pxa_cons (px_ix (ix_any hu) (px_var (pv 0)) px_int (fun _ _ => rfl)) pxa_nil)) (px_var (pv 1))) (pxg_sub (px_var (pv 0)) px_int (sx_any hu)))
    (pxss_one (pxs_ret (px_var (pv 2)))))))
abbrev s_l_pick : Stmt := topS 13
abbrev N_l_pick : List Str := ["pool", "options"]
theorem sc_l_pick : FnScope N_l_pick ["pool", "options"] (defScope s_l_pick) := ⟨rfl, rfl, rfl, by decide +kernel, rfl, by decide +kernel, by decide +kernel⟩
def w_l_pick : WS := (wRet (wBin gIxA (wV 1) (wCall g_l_draw (wCons (wV 0) (wCons (wCall gLen (wCons (wV 1) wNil)) wNil)))))
def g_l_pick : GC := gFn 2 2 w_l_pick
theorem h_l_pick {f : Addr} {fd : FuncData} (F : Fun K "_law_pick" "_law_pick" s_l_pick f fd) (hm : mg "_law_pick" = some (.ref f)) (B : Blt mg) (h_l_draw : Has P w K mg base "_law_draw" ["pool", "limit"] 3 g_l_draw) : Has P w K mg base "_law_pick" ["pool", "options"] 4 g_l_pick := by
  have h_l_draw := h_l_draw.mono (show 3 ≤ 3 by decide)
  refine ⟨f, fd, fn_ok F sc_l_pick 2 2 rfl rfl fun cdv A outer s H E hr => ?_, hm, F.kp, (F.binds (ps := ["pool", "options"]) fun _ _ _ _ _ _ us hl => match us, hl with | [_, _], _ => rfl)⟩
  have hu := hr.units
  have S := sc_l_pick
  exact (pxss_one (pxs_ret (px_ix (ix_any hu) (px_var (pv 1)) (px_fnH h_l_draw hr (by rfl) (pxa_cons (px_var (pv 0)) (pxa_cons (px_callB cx_len (by rfl) B.len PySem.boot_len (pxa_cons (px_var (pv 1)) pxa_nil)) pxa_nil))) (fun _ _ => rfl))))
abbrev s_l_same : Stmt := topS 14
abbrev N_l_same : List Str := ["answer", "due", "key", "k"]
theorem sc_l_same : FnScope N_l_same ["answer", "due"] (defScope s_l_same) := ⟨rfl, rfl, rfl, by decide +kernel, rfl, by decide +kernel, by decide +kernel⟩
def w_l_same (g_l_same : GC) : WS := (wSeq (wIfS (wOr (wTst (wBin (gIs false) (wV 1) (wC .non))) (wOr (wTst (wBin gIsB (wV 1) (wC (.bl true)))) (wTst (wBin gIsB (wV 1) (wC (.bl false)))))) (wRet (wOrV (wAndV (wBin (gIs false) (wV 1) (wC .non)) (wBin (gIs false) (wV 0) (wC .non))) (wOrV (wAndV (wBin gIsB (wV 1) (wC (.bl true))) (wBin gIsB (wV 0) (wC (.bl true)))) (wAndV (wBin gIsB (wV 1) (wC (.bl false))) (wBin gIsB (wV 0) (wC (.bl false))))))) wNext)
    (wSeq (wIfS (wTru (wIsi "int" (wV 1))) (wRet (wAndV (wIsi "int" (wV 0)) (wAndV (wNotV (wIsi "bool" (wV 0))) (wBin (gEqD false) (wV 0) (wV 1))))) wNext)
    (wSeq (wIfS (wTru (wIsi "str" (wV 1))) (wRet (wAndV (wIsi "str" (wV 0)) (wBin (gEqD false) (wV 0) (wV 1)))) wNext)
    (wSeq (wIfS (wTru (wIsi "dict" (wV 1))) (wSeq (wIfS (wOr (wNot (wTru (wIsi "dict" (wV 0)))) (wTst (wBin (gEqD true) (wCall gLen (wCons (wV 0) wNil)) (wCall gLen (wCons (wV 1) wNil))))) (wRet (wC (.bl false))) wNext)
    (wSeq (wForD 1 (gNm 2) (wIfS (wOr (wTst (wBin (gInA true) (wV 2) (wV 0))) (wNot (wTru (wCall g_l_same (wCons (wBin gIxA (wV 0) (wV 2)) (wCons (wBin gIxA (wV 1) (wV 2)) wNil)))))) (wRet (wC (.bl false))) wNext))
    (wRet (wC (.bl true))))) wNext)
    (wSeq (wIfS (wAnd (wTru (wIsi "tuple" (wV 1))) (wNot (wTru (wIsi "tuple" (wV 0))))) (wRet (wC (.bl false))) wNext)
    (wSeq (wIfS (wAnd (wTru (wIsi "list" (wV 1))) (wNot (wTru (wIsi "list" (wV 0))))) (wRet (wC (.bl false))) wNext)
    (wSeq (wIfS (wTst (wBin (gEqD true) (wCall gLen (wCons (wV 0) wNil)) (wCall gLen (wCons (wV 1) wNil)))) (wRet (wC (.bl false))) wNext)
    (wSeq (wForR (wCons (wCall gLen (wCons (wV 1) wNil)) wNil) (gNm 3) (wIfS (wNot (wTru (wCall g_l_same (wCons (wBin gIxA (wV 0) (wV 3)) (wCons (wBin gIxA (wV 1) (wV 3)) wNil))))) (wRet (wC (.bl false))) wNext))
    (wRet (wC (.bl true)))))))))))
def g_l_same : Nat → GC
  | 0 => fun _ _ _ => False
  | d + 1 => gFn 2 4 (w_l_same (g_l_same d))
theorem h_l_same {f : Addr} {fd : FuncData} (F : Fun K "_law_same" "_law_same" s_l_same f fd) (hm : mg "_law_same" = some (.ref f)) (B : Blt mg) : ∀ d, Has P w K mg base "_law_same" ["answer", "due"] d (g_l_same d)
  | 0 => ⟨f, fd, ⟨fun vs H Q E ⟨_, _, _, _, _, _, z, _⟩ => z.elim, fun _ _ _ _ _ _ _ _ _ _ _ _ _ ⟨_, _, _, _, _, _, z, _⟩ => z.elim⟩, hm, F.kp, (F.binds (ps := ["answer", "due"]) fun _ _ _ _ _ _ us hl => match us, hl with | [_, _], _ => rfl)⟩
  | d + 1 => by
    have h_l_same := h_l_same F hm B d
    refine ⟨f, fd, fn_ok F sc_l_same 2 4 rfl rfl fun cdv A outer s H E hr => ?_, hm, F.kp, (F.binds (ps := ["answer", "due"]) fun _ _ _ _ _ _ us hl => match us, hl with | [_, _], _ => rfl)⟩
    have hu := hr.units
    have S := sc_l_same
    exact (pxss_cons (pxs_if (PXW.pxt (pxw_or (pxt_cmp ox_isN (px_var (pv 1)) px_non (nomark _)) (pxw_or (pxt_cmp ox_isB (px_var (pv 1)) px_bl (nomark _)) (pxw_or1 (pxt_cmp ox_isB (px_var (pv 1)) px_bl (nomark _)))))) (pxss_one (pxs_ret (px_or (px_and (px_cmp ox_isN (px_var (pv 1)) px_non (nomark _)) (px_one (px_cmp ox_isN (px_var (pv 0)) px_non (nomark _)))) (px_or (px_and (px_cmp ox_isB (px_var (pv 1)) px_bl (nomark _)) (px_one (px_cmp ox_isB (px_var (pv 0)) px_bl (nomark _)))) (px_one (px_and (px_cmp ox_isB (px_var (pv 1)) px_bl (nomark _)) (px_one (px_cmp ox_isB (px_var (pv 0)) px_bl (nomark _))))))))) pxss_nil)
    (pxss_cons (pxs_if (pxt_tru (px_isi (by rfl) B.isinstance (px_var (pv 1)) (by rfl) B.int PyProof.Rows.boot_int PyProof.Rows.boot_isinstance) (fun _ => rfl)) (pxss_one (pxs_ret (px_and (px_isi (by rfl) B.isinstance (px_var (pv 0)) (by rfl) B.int PyProof.Rows.boot_int PyProof.Rows.boot_isinstance) (px_and (px_not (px_isi (by rfl) B.isinstance (px_var (pv 0)) (by rfl) B.bool PyProof.Rows.boot_bool PyProof.Rows.boot_isinstance)) (px_one (px_cmp (ox_eq hu) (px_var (pv 0)) (px_var (pv 1)) (nomark _))))))) pxss_nil)
    (pxss_cons (pxs_if (pxt_tru (px_isi (by rfl) B.isinstance (px_var (pv 1)) (by rfl) B.str PyProof.Rows.boot_str PyProof.Rows.boot_isinstance) (fun _ => rfl)) (pxss_one (pxs_ret (px_and (px_isi (by rfl) B.isinstance (px_var (pv 0)) (by rfl) B.str PyProof.Rows.boot_str PyProof.Rows.boot_isinstance) (px_one (px_cmp (ox_eq hu) (px_var (pv 0)) (px_var (pv 1)) (nomark _)))))) pxss_nil)
    (pxss_cons (pxs_if (pxt_tru (px_isi (by rfl) B.isinstance (px_var (pv 1)) (by rfl) B.dict PyProof.Rows.boot_dict PyProof.Rows.boot_isinstance) (fun _ => rfl)) (pxss_cons (pxs_if (PXW.pxt (pxw_or (pxt_not (pxt_tru (px_isi (by rfl) B.isinstance (px_var (pv 0)) (by rfl) B.dict PyProof.Rows.boot_dict PyProof.Rows.boot_isinstance) (fun _ => rfl))) (pxw_or1 (pxt_cmp (ox_ne hu) (px_callB cx_len (by rfl) B.len PySem.boot_len (pxa_cons (px_var (pv 0)) pxa_nil)) (px_callB cx_len (by rfl) B.len PySem.boot_len (pxa_cons (px_var (pv 1)) pxa_nil)) (nomark _))))) (pxss_one (pxs_ret px_bl)) pxss_nil)
    (pxss_cons (pxs_forD PassesOwn.never rfl (pv 1) (pxg_name (pg_name (i := 2) S.nd rfl (by first | exact .inl rfl | exact .inr rfl))) (pxss_one (pxs_if (PXW.pxt (pxw_or (pxt_cmp (ox_notIn hu) (px_var (pv 2)) (px_var (pv 0)) rfl) (pxw_or1 (pxt_not (pxt_tru (px_fnH h_l_same hr (by rfl) (pxa_cons (px_ix (ix_any hu) (px_var (pv 0)) (px_var (pv 2)) (fun _ _ => rfl)) (pxa_cons (px_ix (ix_any hu) (px_var (pv 1)) (px_var (pv 2)) (fun _ _ => rfl)) pxa_nil))) (fun _ => rfl)))))) (pxss_one (pxs_ret px_bl)) pxss_nil)))
    (pxss_one (pxs_ret px_bl)))) pxss_nil)
    (pxss_cons (pxs_if (PXW.pxt (pxw_and (pxt_tru (px_isi (by rfl) B.isinstance (px_var (pv 1)) (by rfl) B.tuple PyProof.Rows.boot_tuple PyProof.Rows.boot_isinstance) (fun _ => rfl)) (pxw_and1 (pxt_not (pxt_tru (px_isi (by rfl) B.isinstance (px_var (pv 0)) (by rfl) B.tuple PyProof.Rows.boot_tuple PyProof.Rows.boot_isinstance) (fun _ => rfl)))))) (pxss_one (pxs_ret px_bl)) pxss_nil)
    (pxss_cons (pxs_if (PXW.pxt (pxw_and (pxt_tru (px_isi (by rfl) B.isinstance (px_var (pv 1)) (by rfl) B.list PyProof.Rows.boot_list PyProof.Rows.boot_isinstance) (fun _ => rfl)) (pxw_and1 (pxt_not (pxt_tru (px_isi (by rfl) B.isinstance (px_var (pv 0)) (by rfl) B.list PyProof.Rows.boot_list PyProof.Rows.boot_isinstance) (fun _ => rfl)))))) (pxss_one (pxs_ret px_bl)) pxss_nil)
    (pxss_cons (pxs_if (pxt_cmp (ox_ne hu) (px_callB cx_len (by rfl) B.len PySem.boot_len (pxa_cons (px_var (pv 0)) pxa_nil)) (px_callB cx_len (by rfl) B.len PySem.boot_len (pxa_cons (px_var (pv 1)) pxa_nil)) (nomark _)) (pxss_one (pxs_ret px_bl)) pxss_nil)
    (pxss_cons (pxs_range1 PassesOwn.never rfl (by rfl) B.range (pxa_cons (px_callB cx_len (by rfl) B.len PySem.boot_len (pxa_cons (px_var (pv 1)) pxa_nil)) pxa_nil) (pxg_name (pg_name (i := 3) S.nd rfl (by first | exact .inl rfl | exact .inr rfl))) (pxss_one (pxs_if (pxt_not (pxt_tru (px_fnH h_l_same hr (by rfl) (pxa_cons (px_ix (ix_any hu) (px_var (pv 0)) (px_var (pv 3)) (fun _ _ => rfl)) (pxa_cons (px_ix (ix_any hu) (px_var (pv 1)) (px_var (pv 3)) (fun _ _ => rfl)) pxa_nil))) (fun _ => rfl))) (pxss_one (pxs_ret px_bl)) pxss_nil)))
    (pxss_one (pxs_ret px_bl))))))))))
abbrev s_l_fit : Stmt := topS 15
abbrev N_l_fit : List Str := ["rows", "depth", "value", "best", "length", "head", "answer", "share", "k"]
theorem sc_l_fit : FnScope N_l_fit ["rows", "depth", "value"] (defScope s_l_fit) := ⟨rfl, rfl, rfl, by decide +kernel, rfl, by decide +kernel, by decide +kernel⟩
def w_l_fit : WS := (wSeq (wAsg (wC .non) (gNm 3))
    (wSeq (wFor (wV 0) (gTp 3 (gsCons (gNm 4) (gsCons (gNm 5) (gsCons (gNm 6) gsNil)))) (wSeq (wAsg (wC (.int 1)) (gNm 7))
    (wSeq (wForR (wCons (wBin gSub (wV 1) (wV 4)) wNil) (gNm 8) (wAsg (wBin gMul (wC (.int 2)) (wV 7)) (gNm 7)))
    (wIfS (wAnd (wTst (wBin (gEqD false) (wBin gFdiv (wCall gInt (wCons (wV 2) wNil)) (wV 7)) (wV 5))) (wOr (wTst (wBin (gIs false) (wV 3) (wC .non))) (wTst (wBin gGt (wV 4) (wBin gIxA (wV 3) (wC (.int 0))))))) (wAsg (wTup (wCons (wV 4) (wCons (wV 6) wNil))) (gNm 3)) wNext))))
    (wRet (wIf (wTst (wBin (gIs true) (wV 3) (wC .non))) (wBin gIxA (wV 3) (wC (.int 1))) (wC .non)))))
def g_l_fit : GC := gFn 3 9 w_l_fit
theorem h_l_fit {f : Addr} {fd : FuncData} (F : Fun K "_law_fit" "_law_fit" s_l_fit f fd) (hm : mg "_law_fit" = some (.ref f)) (B : Blt mg) : Has P w K mg base "_law_fit" ["rows", "depth", "value"] 1 g_l_fit := by
  refine ⟨f, fd, fn_ok F sc_l_fit 3 9 rfl rfl fun cdv A outer s H E hr => ?_, hm, F.kp, (F.binds (ps := ["rows", "depth", "value"]) fun _ _ _ _ _ _ us hl => match us, hl with | [_, _, _], _ => rfl)⟩
  have hu := hr.units
  have S := sc_l_fit
  exact (pxss_cons (pxs_set (i := 3) S.nd rfl (by first | exact .inl rfl | exact .inr rfl) px_non)
    (pxss_cons (pxs_for PassesOwn.never rfl (px_var (pv 0)) (pxg_tup rfl (pxgs_cons (pxg_name (pg_name (i := 4) S.nd rfl (by first | exact .inl rfl | exact .inr rfl))) (pxgs_cons (pxg_name (pg_name (i := 5) S.nd rfl (by first | exact .inl rfl | exact .inr rfl))) (pxgs_cons (pxg_name (pg_name (i := 6) S.nd rfl (by first | exact .inl rfl | exact .inr rfl))) pxgs_nil)))) (pxss_cons (pxs_set (i := 7) S.nd rfl (by first | exact .inl rfl | exact .inr rfl) px_int)
    (pxss_cons (pxs_range1 PassesOwn.never rfl (by rfl) B.range (pxa_cons (px_op ox_subX (px_var (pv 1)) (px_var (pv 4))) pxa_nil) (pxg_name (pg_name (i := 8) S.nd rfl (by first | exact .inl rfl | exact .inr rfl))) (pxss_one (pxs_set (i := 7) S.nd rfl (by first | exact .inl rfl | exact .inr rfl) (px_op ox_mulX px_int (px_var (pv 7))))))
    (pxss_one (pxs_if (PXW.pxt (pxw_and (pxt_cmp (ox_eq hu) (px_op ox_fdivX (px_callTy cx_int (by rfl) B.int PyProof.Rows.boot_int (pxa_cons (px_var (pv 2)) pxa_nil)) (px_var (pv 7))) (px_var (pv 5)) (nomark _)) (pxw_and1 (PXW.pxt (pxw_or (pxt_cmp ox_isN (px_var (pv 3)) px_non (nomark _)) (pxw_or1 (pxt_cmp (ox_gt hu) (px_var (pv 4)) (px_ix (ix_any hu) (px_var (pv 3)) px_int (fun _ _ => rfl)) (nomark _)))))))) (pxss_one (pxs_set (i := 3) S.nd rfl (by first | exact .inl rfl | exact .inr rfl) (px_tup (pxa_cons (px_var (pv 4)) (pxa_cons (px_var (pv 6)) pxa_nil))))) pxss_nil)))))
    (pxss_one (pxs_ret (px_if (pxt_cmp ox_notN (px_var (pv 3)) px_non (nomark _)) (px_ix (ix_any hu) (px_var (pv 3)) px_int (fun _ _ => rfl)) px_non)))))
abbrev s_l_cost_own : Stmt := topS 16
abbrev N_l_cost_own : List Str := ["wished", "depth", "length", "head", "above", "kept", "best", "answer", "other"]
theorem sc_l_cost_own : FnScope N_l_cost_own ["wished", "depth", "length", "head", "above"] (defScope s_l_cost_own) := ⟨rfl, rfl, rfl, by decide +kernel, rfl, by decide +kernel, by decide +kernel⟩
def w_l_cost_own (g_l_cost_own : GC) : WS := (wSeq (wIfS (wTst (wBin (gEqD false) (wV 2) (wV 1))) (wRet (wIf (wOr (wTst (wBin gGe (wV 3) (wCall gLen (wCons (wV 0) wNil)))) (wTst (wBin (gEqD false) (wBin gIxA (wV 0) (wV 3)) (wV 4)))) (wC (.int 0)) (wC (.int 1)))) wNext)
    (wSeq (wAsg (wBin gAdd (wCall g_l_cost_own (wCons (wV 0) (wCons (wV 1) (wCons (wBin gAdd (wV 2) (wC (.int 1))) (wCons (wBin gMul (wC (.int 2)) (wV 3)) (wCons (wV 4) wNil)))))) (wCall g_l_cost_own (wCons (wV 0) (wCons (wV 1) (wCons (wBin gAdd (wV 2) (wC (.int 1))) (wCons (wBin gAdd (wBin gMul (wC (.int 2)) (wV 3)) (wC (.int 1))) (wCons (wV 4) wNil))))))) (gNm 5))
    (wSeq (wAsg (wV 5) (gNm 6))
    (wSeq (wFor (wV 0) (gNm 7) (wSeq (wAsg (wBin gAdd (wBin gAdd (wC (.int 1)) (wCall g_l_cost_own (wCons (wV 0) (wCons (wV 1) (wCons (wBin gAdd (wV 2) (wC (.int 1))) (wCons (wBin gMul (wC (.int 2)) (wV 3)) (wCons (wV 7) wNil))))))) (wCall g_l_cost_own (wCons (wV 0) (wCons (wV 1) (wCons (wBin gAdd (wV 2) (wC (.int 1))) (wCons (wBin gAdd (wBin gMul (wC (.int 2)) (wV 3)) (wC (.int 1))) (wCons (wV 7) wNil))))))) (gNm 8))
    (wAsg (wCall gMinA (wCons (wV 6) (wCons (wV 8) wNil))) (gNm 6))))
    (wRet (wV 6))))))
def g_l_cost_own : Nat → GC
  | 0 => fun _ _ _ => False
  | d + 1 => gFn 5 9 (w_l_cost_own (g_l_cost_own d))
theorem h_l_cost_own {f : Addr} {fd : FuncData} (F : Fun K "_law_cost_own" "_law_cost_own" s_l_cost_own f fd) (hm : mg "_law_cost_own" = some (.ref f)) (B : Blt mg) : ∀ d, Has P w K mg base "_law_cost_own" ["wished", "depth", "length", "head", "above"] d (g_l_cost_own d)
  | 0 => ⟨f, fd, ⟨fun vs H Q E ⟨_, _, _, _, _, _, z, _⟩ => z.elim, fun _ _ _ _ _ _ _ _ _ _ _ _ _ ⟨_, _, _, _, _, _, z, _⟩ => z.elim⟩, hm, F.kp, (F.binds (ps := ["wished", "depth", "length", "head", "above"]) fun _ _ _ _ _ _ us hl => match us, hl with | [_, _, _, _, _], _ => rfl)⟩
  | d + 1 => by
    have h_l_cost_own := h_l_cost_own F hm B d
    refine ⟨f, fd, fn_ok F sc_l_cost_own 5 9 rfl rfl fun cdv A outer s H E hr => ?_, hm, F.kp, (F.binds (ps := ["wished", "depth", "length", "head", "above"]) fun _ _ _ _ _ _ us hl => match us, hl with | [_, _, _, _, _], _ => rfl)⟩
    have hu := hr.units
    have S := sc_l_cost_own
    exact (pxss_cons (pxs_if (pxt_cmp (ox_eq hu) (px_var (pv 2)) (px_var (pv 1)) (nomark _)) (pxss_one (pxs_ret (px_if (PXW.pxt (pxw_or (pxt_cmp ox_geX (px_var (pv 3)) (px_callB cx_len (by rfl) B.len PySem.boot_len (pxa_cons (px_var (pv 0)) pxa_nil)) (nomark _)) (pxw_or1 (pxt_cmp (ox_eq hu) (px_ix (ix_any hu) (px_var (pv 0)) (px_var (pv 3)) (fun _ _ => rfl)) (px_var (pv 4)) (nomark _))))) px_int px_int))) pxss_nil)
    (pxss_cons (pxs_set (i := 5) S.nd rfl (by first | exact .inl rfl | exact .inr rfl) (px_op ox_add (px_fnH h_l_cost_own hr (by rfl) (pxa_cons (px_var (pv 0)) (pxa_cons (px_var (pv 1)) (pxa_cons (px_op ox_add (px_var (pv 2)) px_int) (pxa_cons (px_op ox_mulX px_int (px_var (pv 3))) (pxa_cons (px_var (pv 4)) pxa_nil)))))) (px_fnH h_l_cost_own hr (by rfl) (pxa_cons (px_var (pv 0)) (pxa_cons (px_var (pv 1)) (pxa_cons (px_op ox_add (px_var (pv 2)) px_int) (pxa_cons (px_op ox_add (px_op ox_mulX px_int (px_var (pv 3))) px_int) (pxa_cons (px_var (pv 4)) pxa_nil))))))))
    (pxss_cons (pxs_set (i := 6) S.nd rfl (by first | exact .inl rfl | exact .inr rfl) (px_var (pv 5)))
    (pxss_cons (pxs_for PassesOwn.never rfl (px_var (pv 0)) (pxg_name (pg_name (i := 7) S.nd rfl (by first | exact .inl rfl | exact .inr rfl))) (pxss_cons (pxs_set (i := 8) S.nd rfl (by first | exact .inl rfl | exact .inr rfl) (px_op ox_add (px_op ox_add px_int (px_fnH h_l_cost_own hr (by rfl) (pxa_cons (px_var (pv 0)) (pxa_cons (px_var (pv 1)) (pxa_cons (px_op ox_add (px_var (pv 2)) px_int) (pxa_cons (px_op ox_mulX px_int (px_var (pv 3))) (pxa_cons (px_var (pv 7)) pxa_nil))))))) (px_fnH h_l_cost_own hr (by rfl) (pxa_cons (px_var (pv 0)) (pxa_cons (px_var (pv 1)) (pxa_cons (px_op ox_add (px_var (pv 2)) px_int) (pxa_cons (px_op ox_add (px_op ox_mulX px_int (px_var (pv 3))) px_int) (pxa_cons (px_var (pv 7)) pxa_nil))))))))
    (pxss_one (pxs_set (i := 6) S.nd rfl (by first | exact .inl rfl | exact .inr rfl) (px_callB (cx_minA rfl) (by rfl) B.min PyProof.Rows.boot_min (pxa_cons (px_var (pv 6)) (pxa_cons (px_var (pv 8)) pxa_nil)))))))
    (pxss_one (pxs_ret (px_var (pv 6))))))))
abbrev s_l_heads : Stmt := topS 17
abbrev N_l_heads : List Str := ["depth", "found", "many", "length", "head"]
theorem sc_l_heads : FnScope N_l_heads ["depth"] (defScope s_l_heads) := ⟨rfl, rfl, rfl, by decide +kernel, rfl, by decide +kernel, by decide +kernel⟩
def w_l_heads : WS := (wSeq (wAsg (wLst wNil) (gNm 1))
    (wSeq (wAsg (wC (.int 1)) (gNm 2))
    (wSeq (wForR (wCons (wBin gAdd (wV 0) (wC (.int 1))) wNil) (gNm 3) (wSeq (wAsg (wBin gAdd (wV 1) (wLcR [4] (wCons (wV 2) wNil) (gNm 4) wYes (wTup (wCons (wV 3) (wCons (wV 4) wNil))))) (gNm 1))
    (wAsg (wBin gMul (wC (.int 2)) (wV 2)) (gNm 2))))
    (wRet (wV 1)))))
def g_l_heads : GC := gFn 1 5 w_l_heads
theorem h_l_heads {f : Addr} {fd : FuncData} (F : Fun K "_law_heads" "_law_heads" s_l_heads f fd) (hm : mg "_law_heads" = some (.ref f)) (B : Blt mg) : Has P w K mg base "_law_heads" ["depth"] 1 g_l_heads := by
  refine ⟨f, fd, fn_ok F sc_l_heads 1 5 rfl rfl fun cdv A outer s H E hr => ?_, hm, F.kp, (F.binds (ps := ["depth"]) fun _ _ _ _ _ _ us hl => match us, hl with | [_], _ => rfl)⟩
  have hu := hr.units
  have S := sc_l_heads
  exact (pxss_cons (pxs_set (i := 1) S.nd rfl (by first | exact .inl rfl | exact .inr rfl) (px_lst pxa_nil))
    (pxss_cons (pxs_set (i := 2) S.nd rfl (by first | exact .inl rfl | exact .inr rfl) px_int)
    (pxss_cons (pxs_range1 PassesOwn.never rfl (by rfl) B.range (pxa_cons (px_op ox_add (px_var (pv 0)) px_int) pxa_nil) (pxg_name (pg_name (i := 3) S.nd rfl (by first | exact .inl rfl | exact .inr rfl))) (pxss_cons (pxs_set (i := 1) S.nd rfl (by first | exact .inl rfl | exact .inr rfl) (px_op ox_add (px_var (pv 1)) (px_lcR (own := [(Str.ofString "head", 4)]) rfl S.nd (by rfl) B.range (pxa_cons (px_var (pv 2)) pxa_nil) (show BlkOk N_l_heads (defScope s_l_heads) _ [(Str.ofString "head", 4)] from ⟨rfl, by decide +kernel, by decide +kernel, by decide +kernel, by decide +kernel⟩) (fun _ _ _ _ _ => (pg_name (i := 4) S.nd rfl (by first | exact .inl rfl | exact .inr rfl))) (simg_name (by decide)) (fun _ _ _ _ _ => pxts_nil) (fun _ _ _ _ _ => (px_tup (pxa_cons (px_var (pv 3)) (pxa_cons (px_var (pv 4)) pxa_nil)))))))
    (pxss_one (pxs_set (i := 2) S.nd rfl (by first | exact .inl rfl | exact .inr rfl) (px_op ox_mulX px_int (px_var (pv 2)))))))
    (pxss_one (pxs_ret (px_var (pv 1)))))))
abbrev s_l_tables : Stmt := topS 18
abbrev N_l_tables : List Str := ["depth", "answers", "most", "found", "level", "count", "longer", "rows", "length", "head", "answer"]
theorem sc_l_tables : FnScope N_l_tables ["depth", "answers", "most"] (defScope s_l_tables) := ⟨rfl, rfl, rfl, by decide +kernel, rfl, by decide +kernel, by decide +kernel⟩
def w_l_tables : WS := (wSeq (wAsg (wLst (wCons (wLst wNil) wNil)) (gNm 3))
    (wSeq (wAsg (wLst (wCons (wLst wNil) wNil)) (gNm 4))
    (wSeq (wForR (wCons (wV 2) wNil) (gNm 5) (wSeq (wAsg (wLst wNil) (gNm 6))
    (wSeq (wFor (wV 4) (gNm 7) (wFor (wCall g_l_heads (wCons (wV 0) wNil)) (gTp 2 (gsCons (gNm 8) (gsCons (gNm 9) gsNil))) (wIfS (wOr (wTst (wBin (gEqD false) (wCall gLen (wCons (wV 7) wNil)) (wC (.int 0)))) (wTst (wBin gGt (wTup (wCons (wV 8) (wCons (wV 9) wNil))) (wSl gSl (wBin gIxA (wV 7) (wUn gNeg (wC (.int 1)))) wNoP (wPart (wC (.int 2))))))) (wAsg (wBin gAdd (wV 6) (wLc [10] (wV 1) (gNm 10) wYes (wBin gAdd (wV 7) (wLst (wCons (wTup (wCons (wV 8) (wCons (wV 9) (wCons (wV 10) wNil)))) wNil))))) (gNm 6)) wNext)))
    (wSeq (wAsg (wV 6) (gNm 4))
    (wAsg (wBin gAdd (wV 3) (wV 6)) (gNm 3))))))
    (wRet (wV 3)))))
def g_l_tables : GC := gFn 3 11 w_l_tables
theorem h_l_tables {f : Addr} {fd : FuncData} (F : Fun K "_law_tables" "_law_tables" s_l_tables f fd) (hm : mg "_law_tables" = some (.ref f)) (B : Blt mg) (h_l_heads : Has P w K mg base "_law_heads" ["depth"] 1 g_l_heads) : Has P w K mg base "_law_tables" ["depth", "answers", "most"] 2 g_l_tables := by
  have h_l_heads := h_l_heads.mono (show 1 ≤ 1 by decide)
  refine ⟨f, fd, fn_ok F sc_l_tables 3 11 rfl rfl fun cdv A outer s H E hr => ?_, hm, F.kp, (F.binds (ps := ["depth", "answers", "most"]) fun _ _ _ _ _ _ us hl => match us, hl with | [_, _, _], _ => rfl)⟩
  have hu := hr.units
  have S := sc_l_tables
  exact (pxss_cons (pxs_set (i := 3) S.nd rfl (by first | exact .inl rfl | exact .inr rfl) (px_lst (pxa_cons (px_lst pxa_nil) pxa_nil)))
    (pxss_cons (pxs_set (i := 4) S.nd rfl (by first | exact .inl rfl | exact .inr rfl) (px_lst (pxa_cons (px_lst pxa_nil) pxa_nil)))
    (pxss_cons (pxs_range1 PassesOwn.never rfl (by rfl) B.range (pxa_cons (px_var (pv 2)) pxa_nil) (pxg_name (pg_name (i := 5) S.nd rfl (by first | exact .inl rfl | exact .inr rfl))) (pxss_cons (pxs_set (i := 6) S.nd rfl (by first | exact .inl rfl | exact .inr rfl) (px_lst pxa_nil))
    (pxss_cons (pxs_for PassesOwn.never rfl (px_var (pv 4)) (pxg_name (pg_name (i := 7) S.nd rfl (by first | exact .inl rfl | exact .inr rfl))) (pxss_one (pxs_for PassesOwn.never rfl (px_fnH h_l_heads hr (by rfl) (pxa_cons (px_var (pv 0)) pxa_nil)) (pxg_tup rfl (pxgs_cons (pxg_name (pg_name (i := 8) S.nd rfl (by first | exact .inl rfl | exact .inr rfl))) (pxgs_cons (pxg_name (pg_name (i := 9) S.nd rfl (by first | exact .inl rfl | exact .inr rfl))) pxgs_nil))) (pxss_one (pxs_if (PXW.pxt (pxw_or (pxt_cmp (ox_eq hu) (px_callB cx_len (by rfl) B.len PySem.boot_len (pxa_cons (px_var (pv 7)) pxa_nil)) px_int (nomark _)) (pxw_or1 (pxt_cmp (ox_gt hu) (px_tup (pxa_cons (px_var (pv 8)) (pxa_cons (px_var (pv 9)) pxa_nil))) (px_slice (px_ix (ix_any hu) (px_var (pv 7)) (px_un ux_negX px_int) (fun _ _ => rfl)) pxo_none (pxo_some px_int)) (nomark _))))) (pxss_one (pxs_set (i := 6) S.nd rfl (by first | exact .inl rfl | exact .inr rfl) (px_op ox_add (px_var (pv 6)) (px_lc (own := [(Str.ofString "answer", 10)]) rfl S.nd (px_var (pv 1)) (show BlkOk N_l_tables (defScope s_l_tables) _ [(Str.ofString "answer", 10)] from ⟨rfl, by decide +kernel, by decide +kernel, by decide +kernel, by decide +kernel⟩) (fun _ _ _ _ _ => (pg_name (i := 10) S.nd rfl (by first | exact .inl rfl | exact .inr rfl))) (simg_name (by decide)) (fun _ _ _ _ _ => pxts_nil) (fun _ _ _ _ _ => (px_op ox_add (px_var (pv 7)) (px_lst (pxa_cons (px_tup (pxa_cons (px_var (pv 8)) (pxa_cons (px_var (pv 9)) (pxa_cons (px_var (pv 10)) pxa_nil)))) pxa_nil)))))))) pxss_nil)))))
    (pxss_cons (pxs_set (i := 4) S.nd rfl (by first | exact .inl rfl | exact .inr rfl) (px_var (pv 6)))
    (pxss_one (pxs_set (i := 3) S.nd rfl (by first | exact .inl rfl | exact .inr rfl) (px_op ox_add (px_var (pv 3)) (px_var (pv 6)))))))))
    (pxss_one (pxs_ret (px_var (pv 3)))))))
abbrev s_law : Stmt := topS 19
abbrev N_law : List Str := ["script", "pool", "turn", "many", "wished", "depth", "whole", "k", "names", "answer", "rows", "costs", "due", "length", "head", "above", "value", "some", "other"]
theorem sc_law : FnScope N_law ["script"] (defScope s_law) := ⟨rfl, rfl, rfl, by decide +kernel, rfl, by decide +kernel, by decide +kernel⟩
def w_law : WS := (wSeq (wAsg (wCall g_l_pool (wCons (wV 0) wNil)) (gNm 1))
    (wSeq (wForR (wCons (wC (.int 3)) wNil) (gNm 2) (wSeq (wDrop (wCall g_l_next (wCons (wV 1) wNil)))
    (wSeq (wAsg (wBin gAdd (wC (.int 1)) (wCall g_l_draw (wCons (wV 1) (wCons (wC (.int 3)) wNil)))) (gNm 3))
    (wSeq (wAsg (wCall gTuple (wCons (wLcR [7] (wCons (wBin gAdd (wC (.int 1)) (wCall g_l_draw (wCons (wV 1) (wCons (wC (.int 8)) wNil)))) wNil) (gNm 7) wYes (wBin gAdd (wC (.int 5)) (wCall g_l_draw (wCons (wV 1) (wCons (wV 3) wNil))))) wNil)) (gNm 4))
    (wSeq (wAsg (wC (.int 0)) (gNm 5))
    (wSeq (wAsg (wC (.int 1)) (gNm 6))
    (wSeq (wForR (wCons (wC (.int 4)) wNil) (gNm 7) (wIfS (wTst (wBin gLt (wV 6) (wCall gLen (wCons (wV 4) wNil)))) (wSeq (wAsg (wBin gAdd (wV 5) (wC (.int 1))) (gNm 5))
    (wAsg (wBin gMul (wC (.int 2)) (wV 6)) (gNm 6))) wNext))
    (wSeq (wIfS (wNot (wTru (wCall (g_l_same 3) (wCons (wLst (wCons (wCall g_bits_for (wCons (wCall gLen (wCons (wV 4) wNil)) wNil)) (wCons (wCall g_power_of (wCons (wV 5) wNil)) wNil))) (wCons (wLst (wCons (wV 5) (wCons (wV 6) wNil))) wNil))))) (wRet (wC (.bl false))) wNext)
    (wSeq (wAsg (wLst wNil) (gNm 8))
    (wSeq (wFor (wV 4) (gNm 9) (wAsg (wIf (wTst (wBin (gInA false) (wV 9) (wV 8))) (wV 8) (wBin gAdd (wV 8) (wLst (wCons (wV 9) wNil)))) (gNm 8)))
    (wSeq (wAsg (wCall g_least_prefixes (wCons (wV 4) wNil)) (gTp 2 (gsCons (gNm 10) (gsCons (gNm 11) gsNil))))
    (wSeq (wIfS (wOr (wNot (wTru (wCall (g_l_same 3) (wCons (wCall g_answers_of (wCons (wV 4) wNil)) (wCons (wV 8) wNil))))) (wTst (wBin (gEqD true) (wCall gList (wCons (wV 10) wNil)) (wCall gSorted (wCons (wV 10) wNil))))) (wRet (wC (.bl false))) wNext)
    (wSeq (wAsg wDct (gNm 12))
    (wSeq (wFor (wCall g_l_heads (wCons (wV 5) wNil)) (gTp 2 (gsCons (gNm 13) (gsCons (gNm 14) gsNil))) (wFor (wBin gAdd (wLst (wCons (wC .non) wNil)) (wV 8)) (gNm 15) (wAsg (wCall (g_l_cost_own 5) (wCons (wV 4) (wCons (wV 5) (wCons (wV 13) (wCons (wV 14) (wCons (wV 15) wNil)))))) (gSb (wV 12) (wTup (wCons (wV 13) (wCons (wV 14) (wCons (wV 15) wNil)))) gSetA))))
    (wSeq (wIfS (wOr (wNot (wTru (wCall (g_l_same 3) (wCons (wV 11) (wCons (wV 12) wNil))))) (wOr (wNot (wTru (wCall (g_l_same 3) (wCons (wCall g_cost_table (wCons (wV 4) wNil)) (wCons (wV 12) wNil))))) (wTst (wBin (gEqD true) (wCall gLen (wCons (wV 10) wNil)) (wBin gIxA (wV 12) (wTup (wCons (wC (.int 0)) (wCons (wC (.int 0)) (wCons (wC .non) wNil))))))))) (wRet (wC (.bl false))) wNext)
    (wSeq (wForR (wCons (wCall gLen (wCons (wV 4) wNil)) wNil) (gNm 16) (wIfS (wOr (wTst (wBin (gEqD true) (wCall g_l_fit (wCons (wV 10) (wCons (wV 5) (wCons (wV 16) wNil)))) (wBin gIxA (wV 4) (wV 16)))) (wNot (wTru (wCall (g_l_same 3) (wCons (wCall g_fitting (wCons (wV 10) (wCons (wV 5) (wCons (wV 16) wNil)))) (wCons (wBin gIxA (wV 4) (wV 16)) wNil)))))) (wRet (wC (.bl false))) wNext))
    (wSeq (wAsg (wCall g_l_pick (wCons (wV 1) (wCons (wCall g_l_tables (wCons (wCall gMinA (wCons (wV 5) (wCons (wC (.int 2)) wNil))) (wCons (wV 8) (wCons (wC (.int 2)) wNil)))) wNil))) (gNm 17))
    (wSeq (wAsg (wCall g_l_draw (wCons (wV 1) (wCons (wV 6) wNil))) (gNm 16))
    (wSeq (wIfS (wNot (wTru (wCall (g_l_same 3) (wCons (wCall g_fitting (wCons (wCall gTuple (wCons (wV 17) wNil)) (wCons (wV 5) (wCons (wV 16) wNil)))) (wCons (wCall g_l_fit (wCons (wV 17) (wCons (wV 5) (wCons (wV 16) wNil)))) wNil))))) (wRet (wC (.bl false))) wNext)
    (wIfS (wAnd (wTst (wBin gLt (wV 5) (wC (.int 3)))) (wTst (wBin gLt (wCall gLen (wCons (wV 10) wNil)) (wC (.int 4))))) (wFor (wCall g_l_tables (wCons (wV 5) (wCons (wV 8) (wCons (wBin gSub (wCall gLen (wCons (wV 10) wNil)) (wC (.int 1))) wNil)))) (gNm 18) (wIfS (wTst (wBin (gEqD false) (wCall gLen (wCons (wLcR [7] (wCons (wCall gLen (wCons (wV 4) wNil)) wNil) (gNm 7) (wTst (wBin (gEqD true) (wCall g_l_fit (wCons (wV 18) (wCons (wV 5) (wCons (wV 7) wNil)))) (wBin gIxA (wV 4) (wV 7)))) (wV 7)) wNil)) (wC (.int 0)))) (wRet (wC (.bl false))) wNext)) wNext))))))))))))))))))))
    (wRet (wC (.bl true)))))
def g_law : GC := gFn 1 19 w_law
theorem h_law {f : Addr} {fd : FuncData} (F : Fun K "law" "law" s_law f fd) (hm : mg "law" = some (.ref f)) (B : Blt mg) (h_l_pool : Has P w K mg base "_law_pool" ["script"] 3 g_l_pool) (h_l_next : Has P w K mg base "_law_next" ["pool"] 3 g_l_next) (h_l_draw : Has P w K mg base "_law_draw" ["pool", "limit"] 3 g_l_draw) (h_power_of : Has P w K mg base "power_of" ["bits"] 1 g_power_of) (h_bits_for : Has P w K mg base "bits_for" ["size"] 1 g_bits_for) (h_l_same : Has P w K mg base "_law_same" ["answer", "due"] 3 (g_l_same 3)) (h_least_prefixes : Has P w K mg base "least_prefixes" ["wished"] 3 g_least_prefixes) (h_answers_of : Has P w K mg base "answers_of" ["wished"] 1 g_answers_of) (h_l_cost_own : Has P w K mg base "_law_cost_own" ["wished", "depth", "length", "head", "above"] 5 (g_l_cost_own 5)) (h_l_heads : Has P w K mg base "_law_heads" ["depth"] 1 g_l_heads) (h_cost_table : Has P w K mg base "cost_table" ["wished"] 2 g_cost_table) (h_l_fit : Has P w K mg base "_law_fit" ["rows", "depth", "value"] 1 g_l_fit) (h_fitting : Has P w K mg base "fitting" ["rows", "depth", "value"] 2 g_fitting) (h_l_tables : Has P w K mg base "_law_tables" ["depth", "answers", "most"] 2 g_l_tables) (h_l_pick : Has P w K mg base "_law_pick" ["pool", "options"] 4 g_l_pick) : Has P w K mg base "law" ["script"] 6 g_law := by
  have h_l_pool := h_l_pool.mono (show 3 ≤ 5 by decide)
  have h_l_next := h_l_next.mono (show 3 ≤ 5 by decide)
  have h_l_draw := h_l_draw.mono (show 3 ≤ 5 by decide)
  have h_power_of := h_power_of.mono (show 1 ≤ 5 by decide)
  have h_bits_for := h_bits_for.mono (show 1 ≤ 5 by decide)
  have h_l_same := h_l_same.mono (show 3 ≤ 5 by decide)
  have h_least_prefixes := h_least_prefixes.mono (show 3 ≤ 5 by decide)
  have h_answers_of := h_answers_of.mono (show 1 ≤ 5 by decide)
  have h_l_cost_own := h_l_cost_own.mono (show 5 ≤ 5 by decide)
  have h_l_heads := h_l_heads.mono (show 1 ≤ 5 by decide)
  have h_cost_table := h_cost_table.mono (show 2 ≤ 5 by decide)
  have h_l_fit := h_l_fit.mono (show 1 ≤ 5 by decide)
  have h_fitting := h_fitting.mono (show 2 ≤ 5 by decide)
  have h_l_tables := h_l_tables.mono (show 2 ≤ 5 by decide)
  have h_l_pick := h_l_pick.mono (show 4 ≤ 5 by decide)
  refine ⟨f, fd, fn_ok F sc_law 1 19 rfl rfl fun cdv A outer s H E hr => ?_, hm, F.kp, (F.binds (ps := ["script"]) fun _ _ _ _ _ _ us hl => match us, hl with | [_], _ => rfl)⟩
  have hu := hr.units
  have S := sc_law
  exact (pxss_cons (pxs_set (i := 1) S.nd rfl (by first | exact .inl rfl | exact .inr rfl) (px_fnH h_l_pool hr (by rfl) (pxa_cons (px_var (pv 0)) pxa_nil)))
    (pxss_cons (pxs_range1 PassesOwn.never rfl (by rfl) B.range (pxa_cons px_int pxa_nil) (pxg_name (pg_name (i := 2) S.nd rfl (by first | exact .inl rfl | exact .inr rfl))) (pxss_cons (pxs_expr (px_fnH h_l_next hr (by rfl) (pxa_cons (px_var (pv 1)) pxa_nil)))
    (pxss_cons (pxs_set (i := 3) S.nd rfl (by first | exact .inl rfl | exact .inr rfl) (px_op ox_add px_int (px_fnH h_l_draw hr (by rfl) (pxa_cons (px_var (pv 1)) (pxa_cons px_int pxa_nil)))))
    (pxss_cons (pxs_set (i := 4) S.nd rfl (by first | exact .inl rfl | exact .inr rfl) (px_callTy cx_tuple (by rfl) B.tuple PyProof.Rows.boot_tuple (pxa_cons (px_lcR (own := [(Str.ofString "k", 7)]) rfl S.nd (by rfl) B.range (pxa_cons (px_op ox_add px_int (px_fnH h_l_draw hr (by rfl) (pxa_cons (px_var (pv 1)) (pxa_cons px_int pxa_nil)))) pxa_nil) (show BlkOk N_law (defScope s_law) _ [(Str.ofString "k", 7)] from ⟨rfl, by decide +kernel, by decide +kernel, by decide +kernel, by decide +kernel⟩) (fun _ _ _ _ _ => (pg_name (i := 7) S.nd rfl (by first | exact .inl rfl | exact .inr rfl))) (simg_name (by decide)) (fun _ _ _ _ _ => pxts_nil) (fun _ _ _ _ _ => (px_op ox_add px_int (px_fnH h_l_draw hr (by rfl) (pxa_cons (px_var (pv 1)) (pxa_cons (px_var (pv 3)) pxa_nil)))))) pxa_nil)))
    (pxss_cons (pxs_set (i := 5) S.nd rfl (by first | exact .inl rfl | exact .inr rfl) px_int)
    (pxss_cons (pxs_set (i := 6) S.nd rfl (by first | exact .inl rfl | exact .inr rfl) px_int)
    (pxss_cons (pxs_range1 PassesOwn.never rfl (by rfl) B.range (pxa_cons px_int pxa_nil) (pxg_name (pg_name (i := 7) S.nd rfl (by first | exact .inl rfl | exact .inr rfl))) (pxss_one (pxs_if (pxt_cmp ox_ltX (px_var (pv 6)) (px_callB cx_len (by rfl) B.len PySem.boot_len (pxa_cons (px_var (pv 4)) pxa_nil)) (nomark _)) (pxss_cons (pxs_set (i := 5) S.nd rfl (by first | exact .inl rfl | exact .inr rfl) (px_op ox_add (px_var (pv 5)) px_int))
    (pxss_one (pxs_set (i := 6) S.nd rfl (by first | exact .inl rfl | exact .inr rfl) (px_op ox_mulX px_int (px_var (pv 6)))))) pxss_nil)))
    (pxss_cons (pxs_if (pxt_not (pxt_tru (px_fnH h_l_same hr (by rfl) (pxa_cons (px_lst (pxa_cons (px_fnH h_bits_for hr (by rfl) (pxa_cons (px_callB cx_len (by rfl) B.len PySem.boot_len (pxa_cons (px_var (pv 4)) pxa_nil)) pxa_nil)) (pxa_cons (px_fnH h_power_of hr (by rfl) (pxa_cons (px_var (pv 5)) pxa_nil)) pxa_nil))) (pxa_cons (px_lst (pxa_cons (px_var (pv 5)) (pxa_cons (px_var (pv 6)) pxa_nil))) pxa_nil))) (fun _ => rfl))) (pxss_one (pxs_ret px_bl)) pxss_nil)
    (pxss_cons (pxs_set (i := 8) S.nd rfl (by first | exact .inl rfl | exact .inr rfl) (px_lst pxa_nil))
    (pxss_cons (pxs_for PassesOwn.never rfl (px_var (pv 4)) (pxg_name (pg_name (i := 9) S.nd rfl (by first | exact .inl rfl | exact .inr rfl))) (pxss_one (pxs_set (i := 8) S.nd rfl (by first | exact .inl rfl | exact .inr rfl) (px_if (pxt_cmp (ox_in hu) (px_var (pv 9)) (px_var (pv 8)) rfl) (px_var (pv 8)) (px_op ox_add (px_var (pv 8)) (px_lst (pxa_cons (px_var (pv 9)) pxa_nil)))))))
    (pxss_cons (pxs_asg (px_fnH h_least_prefixes hr (by rfl) (pxa_cons (px_var (pv 4)) pxa_nil)) (pxg_tup rfl (pxgs_cons (pxg_name (pg_name (i := 10) S.nd rfl (by first | exact .inl rfl | exact .inr rfl))) (pxgs_cons (pxg_name (pg_name (i := 11) S.nd rfl (by first | exact .inl rfl | exact .inr rfl))) pxgs_nil))))
    (pxss_cons (pxs_if (PXW.pxt (pxw_or (pxt_not (pxt_tru (px_fnH h_l_same hr (by rfl) (pxa_cons (px_fnH h_answers_of hr (by rfl) (pxa_cons (px_var (pv 4)) pxa_nil)) (pxa_cons (px_var (pv 8)) pxa_nil))) (fun _ => rfl))) (pxw_or1 (pxt_cmp (ox_ne hu) (px_callTy cx_list (by rfl) B.list PyProof.Rows.boot_list (pxa_cons (px_var (pv 10)) pxa_nil)) (px_callB (cx_sorted hu) (by rfl) B.sorted PyProof.Rows.boot_sorted (pxa_cons (px_var (pv 10)) pxa_nil)) (nomark _))))) (pxss_one (pxs_ret px_bl)) pxss_nil)
    (pxss_cons (pxs_set (i := 12) S.nd rfl (by first | exact .inl rfl | exact .inr rfl) px_dnew)
    (pxss_cons (pxs_for PassesOwn.never rfl (px_fnH h_l_heads hr (by rfl) (pxa_cons (px_var (pv 5)) pxa_nil)) (pxg_tup rfl (pxgs_cons (pxg_name (pg_name (i := 13) S.nd rfl (by first | exact .inl rfl | exact .inr rfl))) (pxgs_cons (pxg_name (pg_name (i := 14) S.nd rfl (by first | exact .inl rfl | exact .inr rfl))) pxgs_nil))) (pxss_one (pxs_for PassesOwn.never rfl (px_op ox_add (px_lst (pxa_cons px_non pxa_nil)) (px_var (pv 8))) (pxg_name (pg_name (i := 15) S.nd rfl (by first | exact .inl rfl | exact .inr rfl))) (pxss_one (pxs_asg (px_fnH h_l_cost_own hr (by rfl) (pxa_cons (px_var (pv 4)) (pxa_cons (px_var (pv 5)) (pxa_cons (px_var (pv 13)) (pxa_cons (px_var (pv 14)) (pxa_cons (px_var (pv 15)) pxa_nil)))))) (pxg_sub (px_var (pv 12)) (px_tup (pxa_cons (px_var (pv 13)) (pxa_cons (px_var (pv 14)) (pxa_cons (px_var (pv 15)) pxa_nil)))) (sx_any hu)))))))
    (pxss_cons (pxs_if (PXW.pxt (pxw_or (pxt_not (pxt_tru (px_fnH h_l_same hr (by rfl) (pxa_cons (px_var (pv 11)) (pxa_cons (px_var (pv 12)) pxa_nil))) (fun _ => rfl))) (pxw_or (pxt_not (pxt_tru (px_fnH h_l_same hr (by rfl) (pxa_cons (px_fnH h_cost_table hr (by rfl) (pxa_cons (px_var (pv 4)) pxa_nil)) (pxa_cons (px_var (pv 12)) pxa_nil))) (fun _ => rfl))) (pxw_or1 (pxt_cmp (ox_ne hu) (px_callB cx_len (by rfl) B.len PySem.boot_len (pxa_cons (px_var (pv 10)) pxa_nil)) (px_ix (ix_any hu) (px_var (pv 12)) (px_tup (pxa_cons px_int (pxa_cons px_int (pxa_cons px_non pxa_nil)))) (fun _ _ => rfl)) (nomark _)))))) (pxss_one (pxs_ret px_bl)) pxss_nil)
    (pxss_cons (pxs_range1 PassesOwn.never rfl (by rfl) B.range (pxa_cons (px_callB cx_len (by rfl) B.len PySem.boot_len (pxa_cons (px_var (pv 4)) pxa_nil)) pxa_nil) (pxg_name (pg_name (i := 16) S.nd rfl (by first | exact .inl rfl | exact .inr rfl))) (pxss_one (pxs_if (PXW.pxt (pxw_or (pxt_cmp (ox_ne hu) (px_fnH h_l_fit hr (by rfl) (pxa_cons (px_var (pv 10)) (pxa_cons (px_var (pv 5)) (pxa_cons (px_var (pv 16)) pxa_nil)))) (px_ix (ix_any hu) (px_var (pv 4)) (px_var (pv 16)) (fun _ _ => rfl)) (nomark _)) (pxw_or1 (pxt_not (pxt_tru (px_fnH h_l_same hr (by rfl) (pxa_cons (px_fnH h_fitting hr (by rfl) (pxa_cons (px_var (pv 10)) (pxa_cons (px_var (pv 5)) (pxa_cons (px_var (pv 16)) pxa_nil)))) (pxa_cons (px_ix (ix_any hu) (px_var (pv 4)) (px_var (pv 16)) (fun _ _ => rfl)) pxa_nil))) (fun _ => rfl)))))) (pxss_one (pxs_ret px_bl)) pxss_nil)))
    (pxss_cons (pxs_set (i := 17) S.nd rfl (by first | exact .inl rfl | exact .inr rfl) (px_fnH h_l_pick hr (by rfl) (pxa_cons (px_var (pv 1)) (pxa_cons (px_fnH h_l_tables hr (by rfl) (pxa_cons (px_callB (cx_minA rfl) (by rfl) B.min PyProof.Rows.boot_min (pxa_cons (px_var (pv 5)) (pxa_cons px_int pxa_nil))) (pxa_cons (px_var (pv 8)) (pxa_cons px_int pxa_nil)))) pxa_nil))))
    (pxss_cons (pxs_set (i := 16) S.nd rfl (by first | exact .inl rfl | exact .inr rfl) (px_fnH h_l_draw hr (by rfl) (pxa_cons (px_var (pv 1)) (pxa_cons (px_var (pv 6)) pxa_nil))))
    (pxss_cons (pxs_if (pxt_not (pxt_tru (px_fnH h_l_same hr (by rfl) (pxa_cons (px_fnH h_fitting hr (by rfl) (pxa_cons (px_callTy cx_tuple (by rfl) B.tuple PyProof.Rows.boot_tuple (pxa_cons (px_var (pv 17)) pxa_nil)) (pxa_cons (px_var (pv 5)) (pxa_cons (px_var (pv 16)) pxa_nil)))) (pxa_cons (px_fnH h_l_fit hr (by rfl) (pxa_cons (px_var (pv 17)) (pxa_cons (px_var (pv 5)) (pxa_cons (px_var (pv 16)) pxa_nil)))) pxa_nil))) (fun _ => rfl))) (pxss_one (pxs_ret px_bl)) pxss_nil)
    (pxss_one (pxs_if (PXW.pxt (pxw_and (pxt_cmp ox_ltX (px_var (pv 5)) px_int (nomark _)) (pxw_and1 (pxt_cmp ox_ltX (px_callB cx_len (by rfl) B.len PySem.boot_len (pxa_cons (px_var (pv 10)) pxa_nil)) px_int (nomark _))))) (pxss_one (pxs_for PassesOwn.never rfl (px_fnH h_l_tables hr (by rfl) (pxa_cons (px_var (pv 5)) (pxa_cons (px_var (pv 8)) (pxa_cons (px_op ox_subX (px_callB cx_len (by rfl) B.len PySem.boot_len (pxa_cons (px_var (pv 10)) pxa_nil)) px_int) pxa_nil)))) (pxg_name (pg_name (i := 18) S.nd rfl (by first | exact .inl rfl | exact .inr rfl))) (pxss_one (pxs_if (pxt_cmp (ox_eq hu) (px_callB cx_len (by rfl) B.len PySem.boot_len (pxa_cons (px_lcR (own := [(Str.ofString "k", 7)]) rfl S.nd (by rfl) B.range (pxa_cons (px_callB cx_len (by rfl) B.len PySem.boot_len (pxa_cons (px_var (pv 4)) pxa_nil)) pxa_nil) (show BlkOk N_law (defScope s_law) _ [(Str.ofString "k", 7)] from ⟨rfl, by decide +kernel, by decide +kernel, by decide +kernel, by decide +kernel⟩) (fun _ _ _ _ _ => (pg_name (i := 7) S.nd rfl (by first | exact .inl rfl | exact .inr rfl))) (simg_name (by decide)) (fun _ _ _ _ _ => (pxts_one (pxt_cmp (ox_ne hu) (px_fnH h_l_fit hr (by rfl) (pxa_cons (px_var (pv 18)) (pxa_cons (px_var (pv 5)) (pxa_cons (px_var (pv 7)) pxa_nil)))) (px_ix (ix_any hu) (px_var (pv 4)) (px_var (pv 7)) (fun _ _ => rfl)) (nomark _)))) (fun _ _ _ _ _ => (px_var (pv 7)))) pxa_nil)) px_int (nomark _)) (pxss_one (pxs_ret px_bl)) pxss_nil)))) pxss_nil)))))))))))))))))))))
    (pxss_one (pxs_ret px_bl))))
end
end K60


/-! What the defs compute: plain words. -/
namespace K60
open PySem PySem.Spec L2 Tr

/-! ### the words made plain -/
section
variable {h : Hh} {Q : VKT} {i j : Int}
theorem wV_ok {i : Nat} {s : Sl} {t : T} (e : s[i]? = some (some t)) (q : Q t h) : wV i s h Q := ⟨t, e, q⟩
theorem add_i (q : Q (.int (i + j)) h) : gAdd (.int i) (.int j) h Q := .inl ⟨i, j, rfl, rfl, q⟩
theorem sub_i (q : Q (.int (i - j)) h) : gSub (.int i) (.int j) h Q := ⟨i, j, rfl, rfl, q⟩
theorem lt_i (q : Q (.bl (decide (i < j))) h) : gLt (.int i) (.int j) h Q := ⟨i, j, rfl, rfl, q⟩
theorem le_i (q : Q (.bl (decide (i ≤ j))) h) : gLe (.int i) (.int j) h Q := ⟨i, j, rfl, rfl, q⟩
theorem ge_i (q : Q (.bl (decide (j ≤ i))) h) : gGe (.int i) (.int j) h Q := ⟨i, j, rfl, rfl, q⟩
theorem gt_i (q : Q (.bl (decide (j < i))) h) : gGt (.int i) (.int j) h Q := .inl ⟨i, j, rfl, rfl, q⟩
theorem mul_i (m : IntMulOk i j) (q : Q (.int (i * j)) h) : gMul (.int i) (.int j) h Q := ⟨i, j, rfl, rfl, m, q⟩
theorem fdiv_i (m : CDivN i j) (q : Q (.int (i.fdiv j)) h) : gFdiv (.int i) (.int j) h Q := ⟨i, j, rfl, rfl, m, q⟩
theorem mod_i (m : j ≠ 0) (q : Q (.int (i.fmod j)) h) : gMod (.int i) (.int j) h Q := ⟨i, j, rfl, rfl, m, q⟩
theorem pow_i (m : CPow i j) (q : Q (.int (i ^ j.toNat)) h) : gPow (.int i) (.int j) h Q := ⟨i, j, rfl, rfl, m, q⟩
theorem eq_i {neg : Bool} (q : Q (.bl (if neg then !decide (i = j) else decide (i = j))) h) : gEqD neg (.int i) (.int j) h Q := ⟨.int i, .int j, rfl, rfl, rfl, rfl, by
  have e : PyData.eqv (.int i) (.int j) = decide (i = j) := by rw [PyData.eqv]; exact Bool.beq_eq_decide_eq i j
  rw [e]; exact q⟩
theorem mul_ok {a b : Int} (h : IntMulOk a b) : IntMulOk a b := h
theorem two_mul_ok (j : Int) : IntMulOk 2 j := IntMulOk.of_left (by decide)
end
def bitsN (n : Nat) : Nat := if n ≤ 1 then 0 else if n ≤ 2 then 1 else if n ≤ 4 then 2 else 3
theorem bits_lt : ∀ n, n ≤ 8 → ∀ b, b ≤ 3 → ((2 ^ b < n) ↔ b < bitsN n) := by decide
theorem bits_le3 (n : Nat) : bitsN n ≤ 3 := by unfold bitsN; split <;> (try split) <;> (try split) <;> omega


theorem ite_dec {p : Prop} [Decidable p] {A B : Prop} (t : p → A) (f : ¬p → B) : if decide p = true then A else B := by
  by_cases h : p
  · rw [decide_eq_true h, if_pos rfl]; exact t h
  · rw [decide_eq_false h, if_neg Bool.false_ne_true]; exact f h
theorem ite_decN {p : Prop} [Decidable p] {A B : Prop} (t : ¬p → A) (f : p → B) : if (!decide p) = true then A else B := by
  by_cases h : p
  · rw [decide_eq_true h]; exact f h
  · rw [decide_eq_false h]; exact t h
theorem ite_tt {A B : Prop} (t : A) : if true = true then A else B := by rw [if_pos rfl]; exact t
theorem ite_ff {A B : Prop} (t : B) : if false = true then A else B := by rw [if_neg Bool.false_ne_true]; exact t

theorem k_bits {n : Nat} (h8 : n ≤ 8) {h : Hh} {Q : VKT} (q : Q (.int (bitsN n)) h) : g_bits_for [.int n] h Q := by
  refine ⟨rfl, fun m s h' => ∃ b, m = bitsN n - b ∧ b ≤ bitsN n ∧ s = [some (.int n), some (.int b), some (.int (2 ^ b : Nat))] ∧ h' = h, bitsN n, ⟨0, by omega, Nat.zero_le _, rfl, rfl⟩, ?_⟩
  rintro m s h' ⟨b, rfl, hb, rfl, rfl⟩
  have b3 := bits_le3 n
  have key := bits_lt n h8 b (by omega)
  refine ⟨_, rfl, _, rfl, lt_i ⟨_, rfl, ite_dec (fun hlt => ?_) fun hlt => ?_⟩⟩
  · have hlt' : b < bitsN n := key.mp (by omega)
    refine ⟨_, rfl, add_i ⟨_, rfl, mul_i (two_mul_ok _) ?_⟩⟩
    refine ⟨bitsN n - (b + 1), by omega, b + 1, rfl, hlt', ?_, rfl⟩
    show [some (T.int n), some (T.int ((b : Int) + 1)), some (T.int (2 * ((2 ^ b : Nat) : Int)))] = _
    rw [show (2 * ((2 ^ b : Nat) : Int)) = ((2 ^ (b + 1) : Nat) : Int) by rw [Nat.pow_succ]; omega]
    rfl
  · have : b = bitsN n := by
      by_cases z : b < bitsN n
      · exact absurd (key.mpr z) (by omega)
      · omega
    subst this
    exact ⟨_, rfl, q⟩
theorem k_power {n : Nat} (hn : n ≤ 1000) {h : Hh} {Q : VKT} (q : Q (.int (2 ^ n : Nat)) h) : g_power_of [.int n] h Q := by
  refine ⟨rfl, _, rfl, n, rfl, by omega, by omega, fun i s h' => ∃ y, s = [some (.int n), some (.int (2 ^ i : Nat)), y] ∧ h' = h, ⟨none, rfl, rfl⟩, ?_, ?_⟩
  · rintro i s h' hi ⟨y, rfl, rfl⟩
    refine ⟨_, rfl, mul_i (two_mul_ok _) ⟨some (.int i), ?_, rfl⟩⟩
    show [some (T.int n), some (T.int (2 * ((2 ^ i : Nat) : Int))), some (T.int i)] = _
    rw [show (2 * ((2 ^ i : Nat) : Int)) = ((2 ^ (i + 1) : Nat) : Int) by rw [Nat.pow_succ]; omega]
  · rintro s h' ⟨y, rfl, rfl⟩
    exact ⟨_, rfl, by simpa using q⟩
end K60

namespace K60
open PySem PySem.Spec L2 Tr

/-! ### heaps that grow -/
def Gr (h h' : Hh) : Prop := ∀ (i : Nat) (o : O), h[i]? = some o → h'[i]? = some o
theorem Gr.refl (h : Hh) : Gr h h := fun _ _ e => e
theorem Gr.trans {a b c : Hh} (x : Gr a b) (y : Gr b c) : Gr a c := fun i o e => y i o (x i o e)
theorem Gr.app (h z : Hh) : Gr h (h ++ z) := fun i o e => by rw [List.getElem?_append_left (List.getElem?_eq_some_iff.mp e).1]; exact e
theorem Gr.set {h h' : Hh} {n : Nat} {o : O} (g : Gr h h') (hn : h.length ≤ n) : Gr h (h'.set n o) := fun i p e => by
  have hi := (List.getElem?_eq_some_iff.mp e).1
  rw [List.getElem?_set_ne (by omega)]
  exact g i p e
theorem Gr.len {h h' : Hh} (g : Gr h h') : h.length ≤ h'.length := by
  by_cases e : h.length = 0
  · omega
  · have hl : h.length - 1 < h.length := by omega
    have := (List.getElem?_eq_some_iff.mp (g _ _ (List.getElem?_eq_getElem hl))).1
    omega
theorem get_new (h : Hh) (o : O) : (h ++ [o])[h.length]? = some o := by simp
theorem set_same {h : Hh} {n : Nat} {o o' : O} (e : h[n]? = some o) : (h.set n o')[n]? = some o' := List.getElem?_set_self (List.getElem?_eq_some_iff.mp e).1
theorem seqT_ref {h : Hh} {n : Nat} {xs : List T} (e : h[n]? = some (.lst xs)) : seqT h (.ref n) = some xs := by
  show seqO h[n]? = _
  rw [e]; rfl
theorem seqT_gr {h h' : Hh} (g : Gr h h') {x : T} {xs : List T} (e : seqT h x = some xs) : seqT h' x = some xs := by
  cases x with
  | tup l => exact e
  | ref n =>
    change seqO h[n]? = some xs at e
    show seqO h'[n]? = some xs
    cases ho : h[n]? with
    | none => rw [ho] at e; cases e
    | some o => rw [g n o ho]; rw [ho] at e; exact e
  | kls _ => exact e
  | _ => cases e

/-! ### the words made plain -/
abbrev Li (xs : List Int) : List T := xs.map T.int
def toT : Option Int → T
  | none => .non
  | some i => .int i
section
variable {h : Hh} {Q : VKT} {x : T} {xs : List T}
theorem len_s (e : seqT h x = some xs) (q : Q (.int (xs.length : Nat)) h) : gLen [x] h Q := .inl ⟨x, xs, rfl, e, q⟩
theorem len_d {n : Nat} {kvs : List (T × T)} (e : h[n]? = some (.dict kvs)) (q : Q (.int (kvs.length : Nat)) h) : gLen [.ref n] h Q := .inr ⟨n, kvs, rfl, .inl e, q⟩
theorem len_f {n : Nat} {kvs : List (T × T)} (e : dAt h n kvs) (q : Q (.int (kvs.length : Nat)) h) : gLen [.ref n] h Q := .inr ⟨n, kvs, rfl, e, q⟩
theorem ix_s {i : Nat} {v : T} (e : seqT h x = some xs) (hi : xs[i]? = some v) (q : Q v h) : gIxA x (.int (i : Nat)) h Q := .inl ⟨xs, i, v, e, rfl, atI_nat hi, q⟩
theorem ix_d {n : Nat} {kvs : List (T × T)} {y t : T} (e : dAt h n kvs) (ok : okKey y = true) (sk : sameKind kvs y) (g : dget kvs y = some t) (q : Q t h) : gIxA (.ref n) y h Q := .inr ⟨n, kvs, t, rfl, e, ok, sk, g, q⟩
theorem toT_dat (a : Option Int) : ∃ d, datO h (toT a) = some d ∧ SeqAt.shaped d = true ∧ (∀ b d', datO h (toT b) = some d' → PyData.eqv d d' = decide (a = b)) := by
  cases a with
  | none =>
    refine ⟨.none, rfl, rfl, fun b d' e => ?_⟩
    cases b with
    | none => cases e; show PyData.eqv .none .none = _; simp [PyData.eqv]
    | some j => cases e; show PyData.eqv .none (.int j) = _; simp [PyData.eqv]
  | some i =>
    refine ⟨.int i, rfl, rfl, fun b d' e => ?_⟩
    cases b with
    | none => cases e; show PyData.eqv (.int i) .none = _; simp [PyData.eqv]
    | some j => cases e; show PyData.eqv (.int i) (.int j) = _; simp [PyData.eqv, Bool.beq_eq_decide_eq]
theorem eq_a {neg : Bool} {a b : Option Int} (q : Q (.bl (if neg then !decide (a = b) else decide (a = b))) h) : gEqD neg (toT a) (toT b) h Q := by
  obtain ⟨d, h1, h2, h3⟩ := toT_dat (h := h) a
  obtain ⟨e, g1, g2, _⟩ := toT_dat (h := h) b
  exact ⟨d, e, h1, g1, h2, g2, by rw [h3 b e g1]; exact q⟩
theorem inT_ints (a : Int) : ∀ ws : List Int, inT (.int a) (Li ws) = decide (a ∈ ws)
  | [] => by simp [inT]
  | y :: ws => by
    have ih := inT_ints a ws
    unfold inT at ih ⊢
    rw [show Li (y :: ws) = .int y :: Li ws from rfl, List.any_cons, ih]
    show (y == a || decide (a ∈ ws)) = _
    by_cases e : y = a
    · simp [e]
    · have e' : ¬ a = y := fun z => e z.symm
      simp [e, e']
theorem flats (ws : List Int) : (Li ws).all flatT = true := by simp [flatT]
theorem in_ints {neg : Bool} {a : Int} {y : T} {ws : List Int} (e : seqT h y = some (Li ws)) (q : Q (.bl (if neg then !decide (a ∈ ws) else decide (a ∈ ws))) h) : gInA neg (.int a) y h Q :=
  .inl ⟨Li ws, e, rfl, flats ws, by rw [inT_ints]; exact q⟩
theorem append_ok {n : Nat} {y : T} (e : h[n]? = some (.lst xs)) (hz : xs.length < sizeLine) (q : Q .non (h.set n (.lst (xs ++ [y])))) : gAppend (.ref n) [y] h Q := ⟨n, xs, y, rfl, rfl, e, hz, q⟩
theorem isLst_ok {n : Nat} (e : h[n]? = some (.lst xs)) : isLst (.ref n) h := ⟨n, xs, rfl, seqT_ref e⟩
theorem cat_ok {n m : Nat} {ys : List T} (e : h[n]? = some (.lst xs)) (e2 : h[m]? = some (.lst ys)) (hz : xs.length + ys.length ≤ sizeLine) (q : Q (.ref h.length) (h ++ [.lst (xs ++ ys)])) : gAdd (.ref n) (.ref m) h Q := .inr (.inl ⟨n, m, xs, ys, rfl, rfl, e, e2, hz, q⟩)
theorem min2_ok {i j : Int} (q : Q (.int (min i j)) h) : gMinA [.int i, .int j] h Q := .inr ⟨i, j, rfl, by
  have e : (if j < i then j else i) = min i j := by
    by_cases z : j < i
    · rw [if_pos z, Int.min_def]; split <;> omega
    · rw [if_neg z, Int.min_def]; split <;> omega
  rw [e]; exact q⟩
theorem min_ok {n : Nat} {ns : List Int} (e : h[n]? = some (.lst (Li ns))) (hl : 0 < ns.length) (q : ∀ m, m ∈ ns → (∀ y, y ∈ ns → m ≤ y) → Q (.int m) h) : gMinA [.ref n] h Q := .inl ⟨n, ns, rfl, seqT_ref e, hl, q⟩
end
theorem nil_ok {s : Sl} {h : Hh} {Q : List T → Hh → Prop} (q : Q [] h) : wNil s h Q := q
theorem c_ok {t : T} {s : Sl} {h : Hh} {Q : VKT} (q : Q t h) : wC t s h Q := q
theorem v_ok {i : Nat} {t : T} {s : Sl} {h : Hh} {Q : VKT} (e : s[i]? = some (some t)) (q : Q t h) : wV i s h Q := ⟨t, e, q⟩
theorem small {n : Nat} (h : n ≤ 1000) : n < sizeLine := small1000 h
theorem small' {n : Nat} (h : n ≤ 1000) : n ≤ sizeLine := Nat.le_of_lt (small1000 h)

/-! ### dicts whose keys and values come of a list -/
section
variable {ι : Type} {kf vf : ι → T} (inj : ∀ a b, kq (kf a) = kq (kf b) → a = b)
include inj
theorem dget_map : ∀ {E : List ι} {e : ι}, e ∈ E → dget (E.map fun e => (kf e, vf e)) (kf e) = some (vf e)
  | [], _, h => nomatch h
  | a :: E, e, h => by
    unfold dget
    rw [List.map_cons, List.find?_cons]
    by_cases z : kq (kf a) = kq (kf e)
    · rw [decide_eq_true z]
      have := inj a e z
      subst this
      rfl
    · rw [decide_eq_false z]
      have h' : e ∈ E := by
        rcases List.mem_cons.mp h with y | y
        · exact absurd (by rw [y]) z
        · exact y
      exact dget_map h'
theorem dget_map_none : ∀ {E : List ι} {e : ι}, e ∉ E → dget (E.map fun e => (kf e, vf e)) (kf e) = none
  | [], _, _ => rfl
  | a :: E, e, h => by
    unfold dget
    rw [List.map_cons, List.find?_cons]
    have z : ¬ kq (kf a) = kq (kf e) := fun z => h (by rw [inj a e z]; exact List.mem_cons_self)
    rw [decide_eq_false z]
    exact dget_map_none fun y => h (List.mem_cons_of_mem _ y)
theorem dput_map {E : List ι} {e : ι} (h : e ∉ E) : dput (E.map fun e => (kf e, vf e)) (kf e) (vf e) = (E ++ [e]).map fun e => (kf e, vf e) := by
  unfold dput
  have z : (E.map fun e => (kf e, vf e)).any (fun p => decide (kq p.1 = kq (kf e))) = false := by
    rw [List.any_eq_false]
    intro p hp
    obtain ⟨a, ha, rfl⟩ := List.mem_map.mp hp
    intro w
    have := inj a e (of_decide_eq_true w)
    subst this
    exact h ha
  rw [z, if_neg Bool.false_ne_true, List.map_append]
  rfl
end
theorem kind_map {ι : Type} {kf vf : ι → T} {b : Bool} (hk : ∀ e, isTup (kf e) = b) (E : List ι) (k : T) (h : isTup k = b) : sameKind (E.map fun e => (kf e, vf e)) k := by
  intro p hp
  obtain ⟨a, ha, rfl⟩ := List.mem_map.mp hp
  exact (hk a).trans h.symm

/-! ### answers_of -/
def ansStep (acc : List Int) (a : Int) : List Int := if a ∈ acc then acc else acc ++ [a]
def ansL (ws : List Int) : List Int := ws.foldl ansStep []
theorem take_fold {α β : Type} (f : β → α → β) (b : β) (l : List α) (i : Nat) (x : α) (h : l[i]? = some x) : (l.take (i + 1)).foldl f b = f ((l.take i).foldl f b) x := by
  rw [List.take_add_one, h, List.foldl_append]; rfl
theorem ans_len (ws acc : List Int) : (ws.foldl ansStep acc).length ≤ acc.length + ws.length := by
  induction ws generalizing acc with
  | nil => simp
  | cons a ws ih =>
    have := ih (ansStep acc a)
    have h2 : (ansStep acc a).length ≤ acc.length + 1 := by unfold ansStep; split <;> simp
    rw [List.foldl_cons, List.length_cons]; omega
theorem li_get {ws : List Int} {i : Nat} {y : T} (h : (Li ws)[i]? = some y) : ∃ a, y = .int a ∧ ws[i]? = some a ∧ i < ws.length := by
  rw [List.getElem?_map] at h
  cases e : ws[i]? with
  | none => rw [e] at h; cases h
  | some a => rw [e] at h; cases h; exact ⟨a, rfl, rfl, (List.getElem?_eq_some_iff.mp e).1⟩
theorem k_answers {ws : List Int} (hl : ws.length ≤ 1000) {h : Hh} {Q : VKT} (q : Q (.ref h.length) (h ++ [.lst (Li (ansL ws))])) : g_answers_of [.tup (Li ws)] h Q := by
  refine ⟨rfl, Nat.zero_le _, _, rfl, Li ws, rfl, fun i s h' => ∃ y, s = [some (.tup (Li ws)), some (.ref h.length), y] ∧ h' = h ++ [.lst (Li ((ws.take i).foldl ansStep []))], ⟨none, rfl, rfl⟩, fun _ _ _ _ _ => rfl, ?_, ?_⟩
  · rintro i y s h' hi ⟨z, rfl, rfl⟩
    obtain ⟨a, rfl, ha, hlt⟩ := li_get hi
    have st := take_fold ansStep [] ws i a ha
    refine ⟨_, rfl, _, rfl, in_ints (neg := true) (seqT_ref (get_new _ _)) ⟨_, rfl, ite_decN (fun hn => ?_) (fun hy => ?_)⟩⟩
    · refine ⟨_, rfl, isLst_ok (get_new _ _), _, rfl, nil_ok (append_ok (get_new _ _) (small ?_) ⟨some (.int a), rfl, ?_⟩)⟩
      · have := ans_len (ws.take i) []
        simp at this ⊢; omega
      · rw [st, show ansStep ((ws.take i).foldl ansStep []) a = (ws.take i).foldl ansStep [] ++ [a] from if_neg hn]
        simp
    · refine ⟨some (.int a), rfl, ?_⟩
      rw [st, show ansStep ((ws.take i).foldl ansStep []) a = (ws.take i).foldl ansStep [] from if_pos hy]
  · rintro s h' ⟨z, rfl, rfl⟩
    refine ⟨_, rfl, ?_⟩
    have e : ws.take (Li ws).length = ws := by simp
    rw [e]
    exact q
end K60

namespace K60
open PySem PySem.Spec L2 Tr

/-! ### the costs, by their own recursion -/
def cst (ws : List Int) : Nat → Nat → Option Int → Nat
  | 0, t, a => if ws.length ≤ t ∨ ws[t]? = a then 0 else 1
  | k + 1, t, a => ws.foldl (fun b x => min b (1 + cst ws k (2 * t) (some x) + cst ws k (2 * t + 1) (some x))) (cst ws k (2 * t) a + cst ws k (2 * t + 1) a)
theorem li_at {ws : List Int} {t : Nat} {a : Int} (e : ws[t]? = some a) : (Li ws)[t]? = some (.int a) := by rw [List.getElem?_map, e]; rfl
theorem k_own {ws : List Int} {D : Nat} : ∀ (k d len t : Nat) (a : Option Int) (h : Hh) (Q : VKT), k ≤ d → len + k = D → Q (.int (cst ws k t a : Nat)) h → g_l_cost_own (d + 1) [.tup (Li ws), .int (D : Nat), .int (len : Nat), .int (t : Nat), toT a] h Q := by
  intro k
  induction k with
  | zero =>
    intro d len t a h Q _ e q
    refine ⟨rfl, _, rfl, _, rfl, eq_i (neg := false) ⟨_, rfl, ite_dec (fun _ => ?_) fun ne => absurd (by omega) ne⟩⟩
    refine ⟨_, rfl, _, rfl, nil_ok (len_s rfl (ge_i ⟨_, rfl, ite_dec (fun hge => ite_tt ?_) fun hlt => ?_⟩))⟩
    · have : ws.length ≤ t := by simp at hge; omega
      have e : cst ws 0 t a = 0 := by unfold cst; rw [if_pos (.inl this)]
      rw [e] at q
      exact q
    · have hl : t < ws.length := by simp at hlt; omega
      refine ⟨_, rfl, _, rfl, ix_s (i := t) rfl (li_at (List.getElem?_eq_getElem hl)) ⟨_, rfl, eq_a (neg := false) (a := some ws[t]) (b := a) ⟨_, rfl, ite_dec (fun hy => ?_) fun hn => ?_⟩⟩⟩
      · have e : cst ws 0 t a = 0 := by unfold cst; rw [if_pos (.inr (by rw [List.getElem?_eq_getElem hl]; exact hy))]
        rw [e] at q
        exact q
      · have e : cst ws 0 t a = 1 := by unfold cst; rw [if_neg]; rintro (z | z); omega; exact hn (by rw [List.getElem?_eq_getElem hl] at z; exact z)
        rw [e] at q
        exact q
  | succ k ih =>
    intro d len t a h Q hd e q
    obtain ⟨d, rfl⟩ : ∃ d', d = d' + 1 := ⟨d - 1, by omega⟩
    have call : ∀ (x : Nat) (b : Option Int) (h : Hh) (Q : VKT), Q (.int (cst ws k x b : Nat)) h → g_l_cost_own (d + 1) [.tup (Li ws), .int (D : Nat), .int ((len : Int) + 1), .int (x : Nat), toT b] h Q := fun x b h Q q => ih d (len + 1) x b h Q (by omega) (by omega) q
    have c0 : ((2 : Int) * (t : Nat)) = ((2 * t : Nat) : Int) := by omega
    have c1 : ((2 : Int) * (t : Nat) + 1) = ((2 * t + 1 : Nat) : Int) := by omega
    refine ⟨rfl, _, rfl, _, rfl, eq_i (neg := false) ⟨_, rfl, ite_dec (fun z => absurd z (by omega)) fun _ => ?_⟩⟩
    refine ⟨_, rfl, _, rfl, _, rfl, add_i ⟨_, rfl, mul_i (two_mul_ok _) ⟨_, rfl, nil_ok ?_⟩⟩⟩
    rw [c0]
    refine call _ a _ _ ⟨_, rfl, _, rfl, _, rfl, add_i ⟨_, rfl, mul_i (two_mul_ok _) (add_i ⟨_, rfl, nil_ok ?_⟩)⟩⟩
    rw [c1]
    refine call _ a _ _ (add_i ⟨_, rfl, ?_⟩)
    refine ⟨_, rfl, Li ws, rfl, fun i s h' => ∃ y7 y8 : Option T, s = [some (.tup (Li ws)), some (.int (D : Nat)), some (.int (len : Nat)), some (.int (t : Nat)), some (toT a), some (.int ((cst ws k (2 * t) a : Nat) + (cst ws k (2 * t + 1) a : Nat))),
      some (.int ((ws.take i).foldl (fun b x => min b (1 + cst ws k (2 * t) (some x) + cst ws k (2 * t + 1) (some x))) (cst ws k (2 * t) a + cst ws k (2 * t + 1) a) : Nat)), y7, y8] ∧ h' = h, ⟨none, none, rfl, rfl⟩, fun _ _ _ _ _ => rfl, ?_, ?_⟩
    · rintro i y s h' hi ⟨y7, y8, rfl, rfl⟩
      obtain ⟨x, rfl, hx, hlt⟩ := li_get hi
      refine ⟨_, rfl, _, rfl, _, rfl, add_i ⟨_, rfl, mul_i (two_mul_ok _) ⟨_, rfl, nil_ok ?_⟩⟩⟩
      rw [c0]
      refine call _ (some x) _ _ (add_i ⟨_, rfl, _, rfl, _, rfl, add_i ⟨_, rfl, mul_i (two_mul_ok _) (add_i ⟨_, rfl, nil_ok ?_⟩)⟩⟩)
      rw [c1]
      refine call _ (some x) _ _ (add_i ⟨_, rfl, _, rfl, nil_ok (min2_ok ⟨some (.int x), some (.int (1 + ((cst ws k (2 * t) (some x) : Nat) : Int) + ((cst ws k (2 * t + 1) (some x) : Nat) : Int))), ?_, rfl⟩)⟩)
      rw [take_fold _ _ ws i x hx]
      have e : ∀ p m n : Nat, min (p : Int) (1 + (m : Int) + (n : Int)) = ((min p (1 + m + n) : Nat) : Int) := fun p m n => by omega
      rw [e]
      rfl
    · rintro s h' ⟨y7, y8, rfl, rfl⟩
      refine ⟨_, rfl, ?_⟩
      have e : ws.take (Li ws).length = ws := by simp
      rw [e]
      exact q
/-! ### heads -/
def headsL (d : Nat) : List (Nat × Nat) := (List.range d).flatMap fun l => (List.range (2 ^ l)).map fun t => (l, t)
def hT (p : Nat × Nat) : T := .tup [.int (p.1 : Nat), .int (p.2 : Nat)]
theorem heads_len (d : Nat) (hd : d ≤ 4) : (headsL d).length ≤ 15 := by
  have : ∀ d, d ≤ 4 → (headsL d).length ≤ 15 := by decide
  exact this d hd
theorem pow_rng {i : Nat} (hi : i ≤ 3) : -(2 ^ 62) ≤ ((2 ^ i : Nat) : Int) ∧ ((2 ^ i : Nat) : Int) < 2 ^ 62 ∧ 2 ^ i ≤ 8 := by
  have h : 2 ^ i ≤ 8 := by
    have : ∀ i, i ≤ 3 → 2 ^ i ≤ 8 := by decide
    exact this i hi
  exact ⟨Int.le_trans (by decide) (Int.natCast_nonneg _), Int.lt_of_le_of_lt (Int.ofNat_le.mpr h) (by decide), h⟩
theorem two_pow (i : Nat) : (2 : Int) * ((2 ^ i : Nat) : Int) = ((2 ^ (i + 1) : Nat) : Int) := by rw [Nat.pow_succ]; omega
theorem step_nm {vs : List Nat} {v : Nat} {te : WE} {s : Sl} {J : Nat → List T → Hh → Prop} {i : Nat} {y : T} {acc : List T} {h : Hh} (q : te ((wipeT s vs).set v (some y)) h fun t h4 => acc.length < sizeLine ∧ J (i + 1) (acc ++ [t]) h4) : stepLc vs (gNm v) wYes te s J i y acc h := by
  simp only [stepLc, gNm, wYes, if_true]
  exact q
theorem range_at {n i : Nat} (h : i < n) : (List.range n)[i]? = some i := List.getElem?_range h
theorem k_heads {d : Nat} (hd : d ≤ 3) {h : Hh} {Q : VKT} (q : ∀ z, Q (.ref (h ++ z).length) (h ++ z ++ [.lst ((headsL (d + 1)).map hT)])) : g_l_heads [.int (d : Nat)] h Q := by
  refine ⟨rfl, Nat.zero_le _, ?_⟩
  refine ⟨_, rfl, add_i ⟨(d : Int) + 1, rfl, by omega, by omega, fun i s h' => ∃ z y3 y4, s = [some (.int (d : Nat)), some (.ref (h ++ z).length), some (.int (2 ^ i : Nat)), y3, y4] ∧ h' = h ++ z ++ [.lst ((headsL i).map hT)], ⟨[], none, none, by simp, by simp [headsL]⟩, ?_, ?_⟩⟩
  · rintro i s h' hi ⟨z, y3, y4, rfl, rfl⟩
    have hi3 : i ≤ 3 := by omega
    obtain ⟨b1, b2, hp⟩ := pow_rng hi3
    refine ⟨_, rfl, _, rfl, nil_ok ⟨_, rfl, b1, b2, fun j acc h' => acc = (List.range j).map (fun t => hT (i, t)) ∧ h' = h ++ z ++ [.lst ((headsL i).map hT)], ⟨rfl, rfl⟩, ?_, ?_⟩⟩
    · rintro j acc h' hj ⟨rfl, rfl⟩
      have hj8 : j < 2 ^ i := hj
      refine step_nm ⟨_, rfl, _, rfl, nil_ok ⟨small' (by simp), small ?_, ?_, rfl⟩⟩
      · simp; omega
      · rw [List.range_succ, List.map_append]; rfl
    · rintro acc h' ⟨ha, rfl⟩
      change acc = (List.range (2 ^ i)).map (fun t => hT (i, t)) at ha
      subst ha
      refine cat_ok (xs := (headsL i).map hT) (ys := (List.range (2 ^ i)).map fun t => hT (i, t)) ?_ ?_ ?_ ?_
      · rw [List.getElem?_append_left (by simp)]; exact get_new _ _
      · have := get_new (h ++ z ++ [O.lst ((headsL i).map hT)]) (O.lst ((List.range (2 ^ i)).map fun t => hT (i, t)))
        simpa using this
      · have := heads_len i (by omega)
        refine small' ?_
        simp; omega
      · refine ⟨_, rfl, mul_i (two_mul_ok _) ⟨z ++ [O.lst ((headsL i).map hT), O.lst ((List.range (2 ^ i)).map fun t => hT (i, t))], some (.int (i : Nat)), y4, ?_, ?_⟩⟩
        · show [some (T.int (d : Nat)), some (T.ref _), some (T.int _), _, _] = _
          rw [two_pow]
          congr 3
          simp
        · unfold headsL
          rw [List.range_succ, List.flatMap_append]
          simp [hT]
  · rintro s h' ⟨z, y3, y4, rfl, rfl⟩
    have e : ((d : Int) + 1).toNat = d + 1 := by omega
    rw [e]
    exact ⟨_, rfl, q z⟩
end K60

namespace K60
open PySem PySem.Spec L2 Tr

/-! ### the longest row that fits -/
abbrev Row := Nat × Nat × Int
def rT (r : Row) : T := .tup [.int (r.1 : Nat), .int (r.2.1 : Nat), .int r.2.2]
def over (b : Option (Nat × Int)) (l : Nat) : Bool := match b with
  | none => true
  | some p => decide (p.1 < l)
def fits (D v : Nat) (r : Row) : Bool := decide (v / 2 ^ (D - r.1) = r.2.1)
def fitStep (D v : Nat) (b : Option (Nat × Int)) (r : Row) : Option (Nat × Int) := if (fits D v r && over b r.1) = true then some (r.1, r.2.2) else b
def fitL (D v : Nat) (rows : List Row) : Option (Nat × Int) := rows.foldl (fitStep D v) none
def ansOf (b : Option (Nat × Int)) : Option Int := b.map (·.2)
def bT : Option (Nat × Int) → T
  | none => .non
  | some p => .tup [.int (p.1 : Nat), .int p.2]
def lenOf : Option (Nat × Int) → Int
  | none => -1
  | some p => p.1
theorem rows_get {rows : List Row} {i : Nat} {y : T} (h : (rows.map rT)[i]? = some y) : ∃ r, y = rT r ∧ rows[i]? = some r ∧ i < rows.length := by
  rw [List.getElem?_map] at h
  cases e : rows[i]? with
  | none => rw [e] at h; cases h
  | some a => rw [e] at h; cases h; exact ⟨a, rfl, rfl, (List.getElem?_eq_some_iff.mp e).1⟩
theorem fdiv_nat (v k : Nat) : ((v : Nat) : Int).fdiv ((k : Nat) : Int) = ((v / k : Nat) : Int) := by
  rw [Int.fdiv_eq_ediv_of_nonneg _ (Int.natCast_nonneg _), Int.natCast_ediv]
theorem div_ok (v : Int) {k : Nat} (hk : k ≤ 3) : CDivN v ((2 ^ k : Nat) : Int) := by
  obtain ⟨_, _, h⟩ := pow_rng hk
  have hp : 0 < 2 ^ k := Nat.two_pow_pos k
  refine ⟨by omega, ?_⟩
  rw [Int.natAbs_natCast]
  exact Nat.lt_of_le_of_lt h (by decide)
theorem tup2_0 {a b : T} {h : Hh} {Q : VKT} (q : Q a h) : gIxA (.tup [a, b]) (.int 0) h Q := ix_s (i := 0) (xs := [a, b]) rfl rfl q
theorem tup2_1 {a b : T} {h : Hh} {Q : VKT} (q : Q b h) : gIxA (.tup [a, b]) (.int 1) h Q := ix_s (i := 1) (xs := [a, b]) rfl rfl q
theorem gTp3 {i j k : Nat} {a b c : T} {s : Sl} {h : Hh} {Q : Sl → Hh → Prop} (q : Q (((s.set i (some a)).set j (some b)).set k (some c)) h) : gTp 3 (gsCons (gNm i) (gsCons (gNm j) (gsCons (gNm k) gsNil))) (.tup [a, b, c]) s h Q :=
  ⟨[a, b, c], rfl, rfl, a, [b, c], rfl, b, [c], rfl, c, [], rfl, rfl, q⟩
theorem gTp2 {i j : Nat} {a b : T} {s : Sl} {h : Hh} {Q : Sl → Hh → Prop} (q : Q ((s.set i (some a)).set j (some b)) h) : gTp 2 (gsCons (gNm i) (gsCons (gNm j) gsNil)) (.tup [a, b]) s h Q :=
  ⟨[a, b], rfl, rfl, a, [b], rfl, b, [], rfl, rfl, q⟩
theorem k_fit {rows : List Row} {D v : Nat} (hD : D ≤ 3) (hr : ∀ r ∈ rows, r.1 ≤ D) {x : T} {h : Hh} {Q : VKT} (hx : seqT h x = some (rows.map rT)) (q : Q (toT (ansOf (fitL D v rows))) h) : g_l_fit [x, .int (D : Nat), .int (v : Nat)] h Q := by
  refine ⟨rfl, ?_⟩
  refine ⟨x, rfl, rows.map rT, hx, fun i s h' => ∃ y4 y5 y6 y7 y8 : Option T, s = [some x, some (.int (D : Nat)), some (.int (v : Nat)), some (bT ((rows.take i).foldl (fitStep D v) none)), y4, y5, y6, y7, y8] ∧ h' = h, ⟨none, none, none, none, none, rfl, rfl⟩, ?_, ?_, ?_⟩
  · rintro i s h' _ ⟨_, _, _, _, _, _, rfl⟩; exact hx
  · rintro i y s h' hi ⟨y4, y5, y6, y7, y8, rfl, rfl⟩
    obtain ⟨r, rfl, hr', hlt⟩ := rows_get hi
    have hl := hr r (List.mem_of_getElem? hr')
    obtain ⟨l, t, a⟩ := r
    have c : ((D : Nat) : Int) - ((l : Nat) : Int) = ((D - l : Nat) : Int) := by simp at hl; omega
    refine gTp3 ?_
    refine ⟨_, rfl, _, rfl, sub_i ?_⟩
    rw [c]
    refine nil_ok ⟨_, rfl, by omega, by omega, fun j s h'' => ∃ y8 : Option T, s = [some x, some (.int (D : Nat)), some (.int (v : Nat)), some (bT ((rows.take i).foldl (fitStep D v) none)), some (.int (l : Nat)), some (.int (t : Nat)), some (.int a), some (.int (2 ^ j : Nat)), y8] ∧ h'' = h', ⟨y8, rfl, rfl⟩, ?_, ?_⟩
    · rintro j s h'' hj ⟨y8, rfl, rfl⟩
      refine ⟨_, rfl, mul_i (two_mul_ok _) ⟨some (.int (j : Nat)), ?_, rfl⟩⟩
      rw [two_pow]; rfl
    · rintro s h'' ⟨y8, rfl, rfl⟩
      have e : (((D - l : Nat) : Int)).toNat = D - l := rfl
      rw [e]
      have step := take_fold (fitStep D v) none rows i (l, t, a) hr'
      have dok : CDivN (v : Nat) ((2 ^ (D - l) : Nat) : Int) := div_ok _ (by omega)
      refine ⟨_, rfl, nil_ok ⟨_, rfl, _, rfl, fdiv_i dok ?_⟩⟩
      rw [fdiv_nat]
      generalize hb : (rows.take i).foldl (fitStep D v) none = b at *
      have skip : fitStep D v b (l, t, a) = b → ∃ y4 y5 y6 y7 y8_1 : Option T, [some x, some (.int (D : Nat)), some (.int (v : Nat)), some (bT b), some (.int (l : Nat)), some (.int (t : Nat)), some (.int a), some (.int (2 ^ (D - l) : Nat)), y8] = [some x, some (.int (D : Nat)), some (.int (v : Nat)), some (bT ((rows.take (i + 1)).foldl (fitStep D v) none)), y4, y5, y6, y7, y8_1] ∧ h'' = h'' :=
        fun e => ⟨_, _, _, _, _, by rw [step, e], rfl⟩
      have keep : fitStep D v b (l, t, a) = some (l, a) → ∃ y4 y5 y6 y7 y8_1 : Option T, [some x, some (.int (D : Nat)), some (.int (v : Nat)), some (.tup [.int (l : Nat), .int a]), some (.int (l : Nat)), some (.int (t : Nat)), some (.int a), some (.int (2 ^ (D - l) : Nat)), y8] = [some x, some (.int (D : Nat)), some (.int (v : Nat)), some (bT ((rows.take (i + 1)).foldl (fitStep D v) none)), y4, y5, y6, y7, y8_1] ∧ h'' = h'' :=
        fun e => ⟨_, _, _, _, _, by rw [step, e]; rfl, rfl⟩
      refine ⟨_, rfl, eq_i (neg := false) ⟨_, rfl, ite_dec (fun hy => ?_) fun hn => ?_⟩⟩
      · have hy' : v / 2 ^ (D - l) = t := by exact_mod_cast hy
        have fy : fits D v (l, t, a) = true := decide_eq_true hy'
        cases b with
        | none =>
          refine ⟨_, rfl, rfl, _, rfl, ite_tt (ite_tt ⟨_, rfl, _, rfl, nil_ok ⟨small' (by simp), ?_⟩⟩)⟩
          exact keep (by unfold fitStep; rw [fy]; rfl)
        | some p =>
          refine ⟨_, rfl, rfl, _, rfl, ite_ff ⟨_, rfl, _, rfl, tup2_0 (gt_i ⟨_, rfl, ite_dec (fun hg => ?_) fun hg => ?_⟩)⟩⟩
          · refine ⟨_, rfl, _, rfl, nil_ok ⟨small' (by simp), ?_⟩⟩
            refine keep ?_
            unfold fitStep
            rw [fy, show over (some p) l = true from decide_eq_true (by exact_mod_cast hg)]; rfl
          · refine skip ?_
            unfold fitStep
            rw [show over (some p) l = false from decide_eq_false (fun z => hg (by exact_mod_cast z)), Bool.and_false]; rfl
      · refine ite_ff (skip ?_)
        have fn : fits D v (l, t, a) = false := decide_eq_false (fun z => hn (by exact_mod_cast z))
        unfold fitStep
        rw [fn]; rfl
  · rintro s h' ⟨y4, y5, y6, y7, y8, rfl, rfl⟩
    have e : rows.take (rows.map rT).length = rows := by simp
    rw [e]
    change Q (toT (ansOf (rows.foldl (fitStep D v) none))) h' at q
    generalize rows.foldl (fitStep D v) none = b at *
    cases b with
    | none => exact ⟨_, rfl, rfl, _, rfl, ite_ff q⟩
    | some p => exact ⟨_, rfl, rfl, _, rfl, ite_tt ⟨_, rfl, tup2_1 q⟩⟩
theorem k_fitting {rows : List Row} {D v : Nat} (hD : D ≤ 3) (hr : ∀ r ∈ rows, r.1 ≤ D) {h : Hh} {Q : VKT} (q : Q (toT (ansOf (fitL D v rows))) h) : g_fitting [.tup (rows.map rT), .int (D : Nat), .int (v : Nat)] h Q := by
  refine ⟨rfl, ?_⟩
  refine ⟨1, rfl, ?_⟩
  refine ⟨_, rfl, rows.map rT, rfl, fun i s h' => ∃ y5 y6 y7 : Option T, s = [some (.tup (rows.map rT)), some (.int (D : Nat)), some (.int (v : Nat)), some (toT (ansOf ((rows.take i).foldl (fitStep D v) none))), some (.int (lenOf ((rows.take i).foldl (fitStep D v) none))), y5, y6, y7] ∧ h' = h, ⟨none, none, none, rfl, rfl⟩, fun _ _ _ _ _ => rfl, ?_, ?_⟩
  · rintro i y s h' hi ⟨y5, y6, y7, rfl, rfl⟩
    obtain ⟨r, rfl, hr', hlt⟩ := rows_get hi
    have hl := hr r (List.mem_of_getElem? hr')
    obtain ⟨l, t, a⟩ := r
    have c : ((D : Nat) : Int) - ((l : Nat) : Int) = ((D - l : Nat) : Int) := by simp at hl; omega
    refine gTp3 ?_
    have step := take_fold (fitStep D v) none rows i (l, t, a) hr'
    generalize hb : (rows.take i).foldl (fitStep D v) none = b at *
    have skip : fitStep D v b (l, t, a) = b → ∃ y5 y6 y7 : Option T, [some (.tup (rows.map rT)), some (.int (D : Nat)), some (.int (v : Nat)), some (toT (ansOf b)), some (.int (lenOf b)), some (.int (l : Nat)), some (.int (t : Nat)), some (.int a)] = [some (.tup (rows.map rT)), some (.int (D : Nat)), some (.int (v : Nat)), some (toT (ansOf ((rows.take (i + 1)).foldl (fitStep D v) none))), some (.int (lenOf ((rows.take (i + 1)).foldl (fitStep D v) none))), y5, y6, y7] ∧ h' = h' :=
      fun e => ⟨_, _, _, by rw [step, e], rfl⟩
    have ov : over b l = decide (lenOf b < ((l : Nat) : Int)) := by
      cases b with
      | none => symm; apply decide_eq_true; show (-1 : Int) < _; omega
      | some p => show decide (p.1 < l) = decide (((p.1 : Nat) : Int) < _); exact decide_eq_decide.mpr (by omega)
    refine ⟨_, rfl, _, rfl, gt_i ⟨_, rfl, ite_dec (fun hg => ?_) fun hg => ?_⟩⟩
    · refine ⟨_, rfl, _, rfl, _, rfl, sub_i (nil_ok ?_)⟩
      rw [c]
      refine k_power (by omega) (fdiv_i (div_ok _ (by omega)) ?_)
      rw [fdiv_nat]
      refine ⟨_, rfl, eq_i (neg := false) ⟨_, rfl, ite_dec (fun hy => ?_) fun hn => ?_⟩⟩
      · have hy' : v / 2 ^ (D - l) = t := by exact_mod_cast hy
        have e : fitStep D v b (l, t, a) = some (l, a) := by
          unfold fitStep
          rw [ov, decide_eq_true hg, show fits D v (l, t, a) = true from decide_eq_true hy']; rfl
        refine ⟨_, rfl, _, rfl, some (.int (l : Nat)), some (.int (t : Nat)), some (.int a), ?_, rfl⟩
        rw [step, e]; rfl
      · refine skip ?_
        unfold fitStep
        rw [show fits D v (l, t, a) = false from decide_eq_false (fun z => hn (by exact_mod_cast z))]; rfl
    · refine ite_ff (skip ?_)
      unfold fitStep
      rw [ov, decide_eq_false hg, Bool.and_false]; rfl
  · rintro s h' ⟨y5, y6, y7, rfl, rfl⟩
    have e : rows.take (rows.map rT).length = rows := by simp
    rw [e]
    exact ⟨_, rfl, q⟩
end K60

namespace K60
open PySem PySem.Spec L2 Tr

/-! ### tables -/
def Tab (h : Hh) (D : Nat) (As : List Int) (m : Nat) (f : T) : Prop := ∃ (n : Nat) (rows : List Row), f = .ref n ∧ h[n]? = some (.lst (rows.map rT)) ∧ rows.length ≤ m ∧ ∀ r ∈ rows, r.1 ≤ D ∧ r.2.2 ∈ As
theorem Tab.gr {h h' : Hh} {D m : Nat} {As : List Int} {f : T} (t : Tab h D As m f) (g : Gr h h') : Tab h' D As m f := let ⟨n, rows, a, b, c⟩ := t; ⟨n, rows, a, g _ _ b, c⟩
theorem Tab.le {h : Hh} {D m m' : Nat} {As : List Int} {f : T} (t : Tab h D As m f) (g : m ≤ m') : Tab h D As m' f := let ⟨n, rows, a, b, c, d⟩ := t; ⟨n, rows, a, b, Nat.le_trans c g, d⟩
theorem ite_b {b : Bool} {A B : Prop} (t : b = true → A) (f : b = false → B) : if b = true then A else B := by
  cases b with
  | true => rw [if_pos rfl]; exact t rfl
  | false => rw [if_neg Bool.false_ne_true]; exact f rfl
theorem big {n : Nat} (h : n ≤ 20000) : n < sizeLine := Nat.lt_of_le_of_lt h (by decide)
theorem ix_last {x v : T} {ys : List T} {h : Hh} {Q : VKT} (e : seqT h x = some (ys ++ [v])) (q : Q v h) : gIxA x (.int (-1)) h Q := .inl ⟨_, -1, v, e, rfl, atI_last ys v, q⟩
theorem gr_new (h : Hh) (o : O) : Gr h (h ++ [o]) := Gr.app h [o]
theorem get_eq {h : Hh} {o : O} {n : Nat} (e : h.length = n) : (h ++ [o])[n]? = some o := by subst e; exact get_new h o
theorem nop_ok {s : Sl} {h : Hh} {Q : Option Int → Hh → Prop} (q : Q none h) : wNoP s h Q := q
theorem mem_heads {d : Nat} {p : Nat × Nat} (h : p ∈ headsL d) : p.1 < d := by
  obtain ⟨l, hl, hp⟩ := List.mem_flatMap.mp h
  obtain ⟨t, _, rfl⟩ := List.mem_map.mp hp
  exact List.mem_range.mp hl
theorem heads_get {d i : Nat} {y : T} (h : ((headsL d).map hT)[i]? = some y) : ∃ p, y = hT p ∧ p ∈ headsL d ∧ i < (headsL d).length := by
  rw [List.getElem?_map] at h
  cases e : (headsL d)[i]? with
  | none => rw [e] at h; cases h
  | some a => rw [e] at h; cases h; exact ⟨a, rfl, List.mem_of_getElem? e, (List.getElem?_eq_some_iff.mp e).1⟩
theorem k_tables {As : List Int} (ha : As.length ≤ 8) {D : Nat} (hD : D ≤ 3) {most : Int} (hm : -1 ≤ most) (hm2 : most ≤ 2) {y : Nat} {h : Hh} {Q : VKT} (hy : h[y]? = some (.lst (Li As)))
    (q : ∀ (h' : Hh) (n : Nat) (fs : List T), Gr h h' → h'[n]? = some (.lst fs) → fs ≠ [] → fs.length ≤ 20000 → (∀ f ∈ fs, Tab h' D As most.toNat f) → Q (.ref n) h') : g_l_tables [.int (D : Nat), .ref y, .int most] h Q := by
  refine ⟨rfl, Nat.zero_le _, small' (by simp), Nat.zero_le _, small' (by simp), ?_⟩
  refine ⟨_, rfl, nil_ok ⟨most, rfl, by omega, by omega, fun i s h' => ∃ (nf nl : Nat) (fs ls : List T), ∃ y5 y6 y7 y8 y9 y10 : Option T, s = [some (.int (D : Nat)), some (.ref y), some (.int most), some (.ref nf), some (.ref nl), y5, y6, y7, y8, y9, y10] ∧ Gr h h' ∧
    h'[nf]? = some (.lst fs) ∧ h'[nl]? = some (.lst ls) ∧ fs ≠ [] ∧ (∀ f ∈ fs, Tab h' D As i f) ∧ (∀ f ∈ ls, Tab h' D As i f) ∧ ls.length ≤ 120 ^ i ∧ fs.length ≤ 121 ^ i, ?_, ?_, ?_⟩⟩
  · refine ⟨h.length + 1, h.length + 1 + 1 + 1, [.ref h.length], [.ref (h.length + 1 + 1)], none, none, none, none, none, none, ?_, ?_, ?_, ?_, by simp, ?_, ?_, by simp, by simp⟩
    · simp
    · exact ((gr_new _ _).trans (gr_new _ _)).trans ((gr_new _ _).trans (gr_new _ _))
    · exact (gr_new _ _) _ _ ((gr_new _ _) _ _ (get_eq (h := h ++ [O.lst []]) (by simp)))
    · have e : (h ++ [O.lst []] ++ [O.lst [T.ref h.length]]).length = h.length + 1 + 1 := by simp
      rw [e]
      refine get_eq ?_
      simp
    · intro f hf
      have : f = .ref h.length := by simpa using hf
      subst this
      refine ⟨h.length, [], rfl, ?_, Nat.zero_le _, fun r hr => nomatch hr⟩
      exact (gr_new _ _) _ _ ((gr_new _ _) _ _ ((gr_new _ _) _ _ (get_new _ _)))
    · intro f hf
      have : f = .ref (h.length + 1 + 1) := by simpa using hf
      subst this
      refine ⟨h.length + 1 + 1, [], rfl, ?_, Nat.zero_le _, fun r hr => nomatch hr⟩
      exact (gr_new _ _) _ _ (get_eq (by simp))
  · rintro i s h1 hi ⟨nf, nl, fs, ls, y5, y6, y7, y8, y9, y10, rfl, g1, ef, el, hne, tf, tl, zl, zf⟩
    have hi1 : i ≤ 1 := by omega
    have hi' : 120 ^ i ≤ 120 ∧ 121 ^ i ≤ 121 := by
      have : ∀ i, i ≤ 1 → 120 ^ i ≤ 120 ∧ 121 ^ i ≤ 121 := by decide
      exact this i hi1
    -- longer = []
    refine ⟨Nat.zero_le _, ?_⟩
    have g01 : Gr h1 (h1 ++ [O.lst []]) := gr_new _ _
    refine ⟨_, rfl, ls, seqT_ref (g01 _ _ el), fun j s h2 => ∃ (no : Nat) (os : List T), ∃ y5 y7 y8 y9 y10 : Option T, s = [some (.int (D : Nat)), some (.ref y), some (.int most), some (.ref nf), some (.ref nl), y5, some (.ref no), y7, y8, y9, y10] ∧ Gr h1 h2 ∧
      h2[no]? = some (.lst os) ∧ (∀ f ∈ os, Tab h2 D As (i + 1) f) ∧ os.length ≤ j * 120, ?_, ?_, ?_, ?_⟩
    · exact ⟨h1.length, [], _, _, _, _, _, rfl, g01, get_new _ _, (fun f hf => nomatch hf), Nat.zero_le _⟩
    · rintro j s h2 _ ⟨no, os, _, _, _, _, _, _, g2, _⟩
      exact seqT_ref (g2 _ _ el)
    · rintro j r s h2 hj ⟨no, os, y5, y7, y8, y9, y10, rfl, g2, eo, to, zo⟩
      have hjl : j < ls.length := (List.getElem?_eq_some_iff.mp hj).1
      obtain ⟨nr, rows, rfl, er, zr, pr⟩ := (tl r (List.mem_of_getElem? hj)).gr g2
      -- for length, head in heads(depth)
      refine ⟨_, rfl, nil_ok (k_heads hD fun z => ?_)⟩
      have g3 : Gr h2 (h2 ++ z ++ [O.lst ((headsL (D + 1)).map hT)]) := (Gr.app h2 z).trans (gr_new _ _)
      have hh := heads_len (D + 1) (by omega)
      generalize eh : h2 ++ z ++ [O.lst ((headsL (D + 1)).map hT)] = h3 at *
      have e3 : h3[(h2 ++ z).length]? = some (.lst ((headsL (D + 1)).map hT)) := by rw [← eh]; exact get_new _ _
      generalize (h2 ++ z).length = nh at *
      refine ⟨(headsL (D + 1)).map hT, seqT_ref e3, fun k s h4 => ∃ (no : Nat) (os : List T), ∃ y5 y8 y9 y10 : Option T, s = [some (.int (D : Nat)), some (.ref y), some (.int most), some (.ref nf), some (.ref nl), y5, some (.ref no), some (.ref nr), y8, y9, y10] ∧ Gr h3 h4 ∧
        h4[no]? = some (.lst os) ∧ (∀ f ∈ os, Tab h4 D As (i + 1) f) ∧ os.length ≤ j * 120 + k * 8, ?_, ?_, ?_, ?_⟩
      · exact ⟨no, os, _, _, _, _, rfl, Gr.refl _, g3 _ _ eo, fun f hf => (to f hf).gr g3, by omega⟩
      · rintro k s h4 _ ⟨_, _, _, _, _, _, _, g4, _⟩
        exact seqT_ref (g4 _ _ e3)
      · rintro k p s h4 hk ⟨no, os, y5, y8, y9, y10, rfl, g4, eo4, to4, zo4⟩
        obtain ⟨⟨l, t⟩, rfl, hp, hkl⟩ := heads_get hk
        have hlD : l ≤ D := Nat.lt_succ_iff.mp (mem_heads hp)
        refine gTp2 ?_
        have er4 := g4 _ _ (g3 _ _ er)
        have ey4 : h4[y]? = some (.lst (Li As)) := g4 _ _ (g3 _ _ (g2 _ _ (g1 _ _ hy)))
        -- the row is taken
        have take : wAsg (wBin gAdd (wV 6) (wLc [10] (wV 1) (gNm 10) wYes (wBin gAdd (wV 7) (wLst (wCons (wTup (wCons (wV 8) (wCons (wV 9) (wCons (wV 10) wNil)))) wNil))))) (gNm 6)
            { nx := fun s h4 => ∃ (no : Nat) (os : List T), ∃ y5 y8 y9 y10 : Option T, s = [some (.int (D : Nat)), some (.ref y), some (.int most), some (.ref nf), some (.ref nl), y5, some (.ref no), some (.ref nr), y8, y9, y10] ∧ Gr h3 h4 ∧
                h4[no]? = some (.lst os) ∧ (∀ f ∈ os, Tab h4 D As (i + 1) f) ∧ os.length ≤ j * 120 + (k + 1) * 8, rt := Q }
            [some (.int (D : Nat)), some (.ref y), some (.int most), some (.ref nf), some (.ref nl), y5, some (.ref no), some (.ref nr), some (.int (l : Nat)), some (.int (t : Nat)), y10] h4 := by
          refine ⟨_, rfl, _, rfl, Li As, seqT_ref ey4, fun m acc h5 => Gr h4 h5 ∧ (∀ f ∈ acc, Tab h5 D As (i + 1) f) ∧ acc.length = m, ⟨Gr.refl _, (fun f hf => nomatch hf), rfl⟩, fun _ _ _ _ ⟨g, _⟩ => seqT_ref (g _ _ ey4), ?_, ?_⟩
          · rintro m x acc h5 hmx ⟨g5, ta, za⟩
            obtain ⟨a, rfl, haa, hma⟩ := li_get hmx
            refine step_nm ⟨_, rfl, _, rfl, _, rfl, _, rfl, nil_ok ⟨small' (by simp), small' (by simp), ?_⟩⟩
            refine cat_ok (xs := rows.map rT) (ys := [rT (l, t, a)]) ?_ (get_new _ _) ?_ ⟨big (by omega), ?_, ?_, by simp [za]⟩
            · rw [List.getElem?_append_left (by have := (List.getElem?_eq_some_iff.mp (g5 _ _ er4)).1; omega)]; exact g5 _ _ er4
            · refine small' ?_
              simp; omega
            · exact g5.trans ((gr_new _ _).trans (gr_new _ _))
            · intro f hf
              rcases List.mem_append.mp hf with z' | z'
              · exact (ta f z').gr ((gr_new _ _).trans (gr_new _ _))
              · have : f = T.ref (h5 ++ [O.lst [rT (l, t, a)]]).length := by simpa using z'
                subst this
                refine ⟨_, rows ++ [(l, t, a)], rfl, ?_, by simp; exact zr, fun r hr => ?_⟩
                · have := get_new (h5 ++ [O.lst [rT (l, t, a)]]) (O.lst (rows.map rT ++ [rT (l, t, a)]))
                  rw [List.map_append]; exact this
                · rcases List.mem_append.mp hr with w' | w'
                  · exact pr r w'
                  · have : r = (l, t, a) := by simpa using w'
                    subst this
                    exact ⟨hlD, List.mem_of_getElem? haa⟩
          · rintro acc h5 ⟨g5, ta, za⟩
            have za' : acc.length ≤ 8 := by rw [za]; simpa using ha
            have g56 : Gr h5 (h5 ++ [O.lst acc]) := gr_new _ _
            refine cat_ok (g56 _ _ (g5 _ _ eo4)) (get_new _ _) (Nat.le_of_lt (big (by omega))) ?_
            refine ⟨_, os ++ acc, _, _, _, _, rfl, g4.trans (g5.trans (g56.trans (gr_new _ _))), get_new _ _, fun f hf => ?_, by rw [List.length_append]; omega⟩
            rcases List.mem_append.mp hf with z' | z'
            · exact (to4 f z').gr (g5.trans (g56.trans (gr_new _ _)))
            · exact (ta f z').gr (g56.trans (gr_new _ _))
        have skip : ∃ (no' : Nat) (os' : List T), ∃ y5' y8 y9 y10' : Option T, [some (.int (D : Nat)), some (.ref y), some (.int most), some (.ref nf), some (.ref nl), y5, some (.ref no), some (.ref nr), some (.int (l : Nat)), some (.int (t : Nat)), y10] = [some (.int (D : Nat)), some (.ref y), some (.int most), some (.ref nf), some (.ref nl), y5', some (.ref no'), some (.ref nr), y8, y9, y10'] ∧ Gr h3 h4 ∧
                h4[no']? = some (.lst os') ∧ (∀ f ∈ os', Tab h4 D As (i + 1) f) ∧ os'.length ≤ j * 120 + (k + 1) * 8 := ⟨no, os, _, _, _, _, rfl, g4, eo4, to4, by omega⟩
        refine ⟨_, rfl, nil_ok (len_s (seqT_ref er4) (c_ok (eq_i (neg := false) ⟨_, rfl, ite_dec (fun hz => ite_tt take) fun hz => ?_⟩)))⟩
        rcases List.eq_nil_or_concat rows with hr0 | ⟨rows0, r0, hr0⟩
        · subst hr0; exact absurd rfl hz
        · obtain ⟨l0, t0, a0⟩ := r0
          refine ⟨_, rfl, _, rfl, nil_ok ⟨small' (by simp), ?_⟩⟩
          refine ⟨_, rfl, 1, rfl, ix_last (ys := rows0.map rT) (v := rT (l0, t0, a0)) ?_ (nop_ok ⟨2, rfl, .inr ⟨_, rfl, ?_, ?_⟩⟩)⟩
          · rw [seqT_ref er4, hr0]; simp
          · rintro ⟨_, z⟩; exact absurd (show HT.sIx 3 3 (some 2) = 3 from z) (by decide)
          · refine .inr ⟨.tuple [.int (l : Nat), .int (t : Nat)], .tuple [.int (l0 : Nat), .int (t0 : Nat)], rfl, rfl, rfl, by simp [W.alike, W.alikeAll], nofun, _, rfl, ite_b (fun _ => take) fun _ => skip⟩
      · rintro s h4 ⟨no', os', y5', y8', y9', y10', rfl, g4, eo4, to4, zo4⟩
        refine ⟨no', os', _, _, _, _, _, rfl, g2.trans (g3.trans g4), eo4, to4, ?_⟩
        rw [List.length_map] at zo4
        omega
    · rintro s h2 ⟨no, os, y5, y7, y8, y9, y10, rfl, g2, eo, to, zo⟩
      refine ⟨_, rfl, _, rfl, _, rfl, ?_⟩
      have zfs : fs.length ≤ 121 := Nat.le_trans zf hi'.2
      have zos : os.length ≤ 14400 := by omega
      refine cat_ok (g2 _ _ ef) eo (Nat.le_of_lt (big (by omega))) ?_
      refine ⟨_, no, fs ++ os, os, _, _, _, _, _, _, rfl, g1.trans (g2.trans (gr_new _ _)), get_new _ _, (gr_new _ _) _ _ eo, by simp [hne], fun f hf => ?_, fun f hf => (to f hf).gr (gr_new _ _), ?_, ?_⟩
      · rcases List.mem_append.mp hf with z | z
        · exact ((tf f z).gr (g2.trans (gr_new _ _))).le (Nat.le_succ _)
        · exact (to f z).gr (gr_new _ _)
      · rw [Nat.pow_succ]
        exact Nat.le_trans zo (Nat.mul_le_mul_right _ zl)
      · rw [List.length_append, Nat.pow_succ]
        have h1 : ls.length * 120 ≤ 120 ^ i * 120 := Nat.mul_le_mul_right _ zl
        have h2 : 120 ^ i ≤ 121 ^ i := Nat.pow_le_pow_left (by decide) i
        omega
  · rintro s h' ⟨nf, nl, fs, ls, y5, y6, y7, y8, y9, y10, rfl, g, ef, el, hne, tf, tl, zl, zf⟩
    refine ⟨_, rfl, q h' nf fs g ef hne ?_ tf⟩
    have : most.toNat ≤ 2 := by omega
    have h3 : 121 ^ most.toNat ≤ 14641 := by
      have : ∀ i, i ≤ 2 → 121 ^ i ≤ 14641 := by decide
      exact this _ (by omega)
    omega
end K60

namespace K60
open PySem PySem.Spec L2 Tr

/-! ### _law_same, where both are alike -/
theorem isi_ok {n k : String} {i : Nat} {b : Bool} {t : T} {s : Sl} {h : Hh} {Q : VKT} (e : s[i]? = some (some t)) (hk : kindT h t = some k) (hb : kitB k n = some b) (q : Q (.bl b) h) : wIsi n (wV i) s h Q := ⟨t, e, k, b, hk, hb, q⟩
section
variable {n k n' k' : String} {i i' : Nat} {t t' : T} {s : Sl} {h : Hh} {f g : WS} {D : EndsT}
theorem seq_ok (q : f { D with nx := g D } s h) : wSeq f g D s h := q
theorem isi_no (e : s[i]? = some (some t)) (hk : kindT h t = some k) (hb : kitB k n = some false) (q : D.nx s h) : wIfS (Tr.wTru (wIsi n (wV i))) f wNext D s h := ⟨t, e, k, false, hk, hb, false, rfl, ite_ff q⟩
theorem isi_yes (e : s[i]? = some (some t)) (hk : kindT h t = some k) (hb : kitB k n = some true) (q : f D s h) : wIfS (Tr.wTru (wIsi n (wV i))) f g D s h := ⟨t, e, k, true, hk, hb, true, rfl, ite_tt q⟩
theorem isi_and1 {c : WT} (e : s[i]? = some (some t)) (hk : kindT h t = some k) (hb : kitB k n = some false) (q : D.nx s h) : wIfS (wAnd (Tr.wTru (wIsi n (wV i))) c) f wNext D s h := ⟨t, e, k, false, hk, hb, false, rfl, ite_ff (ite_ff q)⟩
theorem isi_and2 (e : s[i]? = some (some t)) (hk : kindT h t = some k) (hb : kitB k n = some true) (e' : s[i']? = some (some t')) (hk' : kindT h t' = some k') (hb' : kitB k' n' = some true) (q : D.nx s h) : wIfS (wAnd (Tr.wTru (wIsi n (wV i))) (wNot (Tr.wTru (wIsi n' (wV i'))))) f wNext D s h :=
  ⟨t, e, k, true, hk, hb, true, rfl, ite_tt ⟨t', e', k', true, hk', hb', true, rfl, ite_ff q⟩⟩
theorem isi_or {c : WT} (e : s[i]? = some (some t)) (hk : kindT h t = some k) (hb : kitB k n = some true) (q : c s h fun b h1 => if b = true then f D s h1 else g D s h1) : wIfS (wOr (wNot (Tr.wTru (wIsi n (wV i)))) c) f g D s h := ⟨t, e, k, true, hk, hb, true, rfl, ite_ff q⟩
end
/-- due is not None, not True, not False -/
theorem same_first {t due : T} {f : WS} {D : EndsT} {y2 y3 : Option T} {h : Hh} (h1 : isNon due = false) (h2 : isBl true due = false) (h3 : isBl false due = false) (q : D.nx [some t, some due, y2, y3] h) :
    wIfS (wOr (wTst (wBin (gIs false) (wV 1) (wC .non))) (wOr (wTst (wBin gIsB (wV 1) (wC (.bl true)))) (wTst (wBin gIsB (wV 1) (wC (.bl false)))))) f wNext D [some t, some due, y2, y3] h := by
  refine ⟨_, rfl, rfl, _, rfl, ?_⟩
  show if isNon due = true then _ else _
  rw [h1]
  refine ite_ff ⟨_, rfl, true, rfl, _, rfl, ?_⟩
  rw [h2]
  refine ite_ff ⟨_, rfl, false, rfl, _, rfl, ?_⟩
  rw [h3]
  exact ite_ff q
theorem k_same_a (d : Nat) (a : Option Int) {h : Hh} {Q : VKT} (q : Q (.bl true) h) : g_l_same (d + 1) [toT a, toT a] h Q := by
  cases a with
  | none =>
    refine ⟨rfl, _, rfl, rfl, _, rfl, ite_tt (ite_tt ?_)⟩
    exact ⟨_, rfl, rfl, _, rfl, ite_tt ⟨_, rfl, rfl, _, rfl, ite_tt q⟩⟩
  | some i =>
    refine ⟨rfl, ?_⟩
    refine same_first rfl rfl rfl ?_
    refine seq_ok (isi_yes rfl rfl rfl ?_)
    refine ⟨_, rfl, "int", true, rfl, rfl, true, rfl, ite_tt ⟨_, rfl, "int", false, rfl, rfl, false, rfl, true, rfl, ite_tt ⟨_, rfl, _, rfl, eq_i (neg := false) ?_⟩⟩⟩
    rw [if_neg Bool.false_ne_true, decide_eq_true rfl]
    exact q
theorem kind_l {h : Hh} {n : Nat} {xs : List T} (e : h[n]? = some (.lst xs)) : kindT h (.ref n) = some "list" := by
  show kindO h[n]? = _
  rw [e]; rfl
theorem kind_d {h : Hh} {n : Nat} {xs : List (T × T)} (e : h[n]? = some (.dict xs)) : kindT h (.ref n) = some "dict" := by
  show kindO h[n]? = _
  rw [e]; rfl
theorem k_same_l (d : Nat) {xs : List Int} (hz : xs.length ≤ 1000) {n m : Nat} {h : Hh} {Q : VKT} (e1 : h[n]? = some (.lst (Li xs))) (e2 : h[m]? = some (.lst (Li xs))) (q : Q (.bl true) h) : g_l_same (d + 2) [.ref n, .ref m] h Q := by
  have k1 := kind_l e1
  have hl' : (Li xs).length = xs.length := List.length_map ..
  have k2 := kind_l e2
  refine ⟨rfl, ?_⟩
  refine same_first rfl rfl rfl ?_
  refine seq_ok (isi_no rfl k2 rfl (seq_ok (isi_no rfl k2 rfl (seq_ok (isi_no rfl k2 rfl (seq_ok (isi_and1 rfl k2 rfl (seq_ok (isi_and2 rfl k2 rfl rfl k1 rfl ?_)))))))))
  refine ⟨_, rfl, nil_ok (len_s (seqT_ref e1) ⟨_, rfl, nil_ok (len_s (seqT_ref e2) (eq_i (neg := true) ⟨_, rfl, ite_decN (fun z => absurd rfl z) fun _ => ?_⟩))⟩)⟩
  refine ⟨_, rfl, nil_ok (len_s (seqT_ref e2) (nil_ok ⟨_, rfl, by omega, by have := hl'; omega, fun i s h' => ∃ y3 : Option T, s = [some (.ref n), some (.ref m), none, y3] ∧ h' = h, ⟨none, rfl, rfl⟩, ?_, ?_⟩))⟩
  · rintro i s h' hi ⟨y3, rfl, rfl⟩
    have hi' : i < xs.length := by
      change i < (Li xs).length at hi
      simpa using hi
    have g := li_at (List.getElem?_eq_getElem hi')
    refine ⟨_, rfl, _, rfl, ix_s (i := i) (seqT_ref e1) g ⟨_, rfl, _, rfl, ix_s (i := i) (seqT_ref e2) g (nil_ok (k_same_a d (some xs[i]) ⟨true, rfl, ite_ff ⟨_, rfl, rfl⟩⟩))⟩⟩
  · rintro s h' ⟨y3, rfl, rfl⟩
    exact q

/-! ### the dicts of costs -/
abbrev Ek := Nat × Nat × Option Int
def keyT (e : Ek) : T := .tup [.int (e.1 : Nat), .int (e.2.1 : Nat), toT e.2.2]
theorem toT_kq {a b : Option Int} (h : kq (toT a) = kq (toT b)) : a = b := by
  cases a with
  | none => cases b with
    | none => rfl
    | some j => exact absurd (show NestedKey.none = .num j from h) (fun z => nomatch z)
  | some i => cases b with
    | none => exact absurd (show NestedKey.num i = .none from h) (fun z => nomatch z)
    | some j =>
      have h' : NestedKey.num i = .num j := h
      injection h' with h'
      rw [h']
theorem keyT_inj : ∀ a b : Ek, kq (keyT a) = kq (keyT b) → a = b := by
  rintro ⟨l, t, a⟩ ⟨l', t', a'⟩ h
  have h' : NestedKey.tup [.num (l : Nat), .num (t : Nat), kq (toT a)] = NestedKey.tup [.num (l' : Nat), .num (t' : Nat), kq (toT a')] := h
  injection h' with h1
  injection h1 with h1 h2
  injection h2 with h2 h3
  injection h3 with h3 _
  injection h1 with h1
  injection h2 with h2
  have := toT_kq h3
  subst this
  rw [Int.ofNat.inj h1, Int.ofNat.inj h2]
theorem keyT_ok (e : Ek) : okKey (keyT e) = true := by
  obtain ⟨l, t, a⟩ := e
  cases a <;> rfl
def DB (C : Ek → Nat) (E : List Ek) : List (T × T) := E.map fun e => (keyT e, T.int (C e : Nat))
theorem DB_tup (C : Ek → Nat) (E : List Ek) : ∀ p ∈ DB C E, isTup p.1 = true := by
  intro p hp
  obtain ⟨e, _, rfl⟩ := List.mem_map.mp hp
  rfl
theorem DB_kind (C : Ek → Nat) (E : List Ek) (e : Ek) : sameKind (DB C E) (keyT e) := fun p hp => DB_tup C E p hp
theorem DB_get {C : Ek → Nat} {E : List Ek} {e : Ek} (h : e ∈ E) : dget (DB C E) (keyT e) = some (.int (C e : Nat)) := dget_map keyT_inj h
theorem DB_put {C : Ek → Nat} {E : List Ek} {e : Ek} (h : e ∉ E) : dput (DB C E) (keyT e) (.int (C e : Nat)) = DB C (E ++ [e]) := dput_map (vf := fun e => T.int (C e : Nat)) keyT_inj h
theorem ix_DB {C : Ek → Nat} {E : List Ek} {e : Ek} {n : Nat} {h : Hh} {Q : VKT} (hn : dAt h n (DB C E)) (m : e ∈ E) (q : Q (.int (C e : Nat)) h) : gIxA (.ref n) (keyT e) h Q := ix_d hn (keyT_ok e) (DB_kind C E e) (DB_get m) q
theorem notIn_DB {C : Ek → Nat} {E : List Ek} {e : Ek} {n : Nat} {h : Hh} {Q : VKT} (hn : dAt h n (DB C E)) (m : e ∈ E) (q : Q (.bl false) h) : gInA true (keyT e) (.ref n) h Q :=
  .inr ⟨n, _, rfl, hn, keyT_ok e, DB_kind C E e, by rw [DB_get m]; exact q⟩
theorem set_DB {C : Ek → Nat} {E : List Ek} {e : Ek} {n : Nat} {h : Hh} {Q : Hh → Prop} (hn : h[n]? = some (.dict (DB C E))) (m : e ∉ E) (hz : E.length ≤ 1000) (q : Q (h.set n (.dict (DB C (E ++ [e]))))) : gSetA (.ref n) (keyT e) (.int (C e : Nat)) h Q :=
  .inr ⟨n, _, rfl, hn, keyT_ok e, DB_kind C E e, by unfold DB; rw [List.length_map]; exact small hz, by rw [DB_put m]; exact q⟩
theorem db_get {C : Ek → Nat} {E : List Ek} {j : Nat} {p : T × T} (h : (DB C E)[j]? = some p) : ∃ e, p = (keyT e, T.int (C e : Nat)) ∧ e ∈ E := by
  unfold DB at h
  rw [List.getElem?_map] at h
  cases e : E[j]? with
  | none => rw [e] at h; cases h
  | some a => rw [e] at h; cases h; exact ⟨a, rfl, List.mem_of_getElem? e⟩
theorem DB_len (C : Ek → Nat) (E : List Ek) : (DB C E).length = E.length := List.length_map ..
theorem k_same_d (d : Nat) {C : Ek → Nat} {E1 E2 : List Ek} (hl : E1.length = E2.length) (hs : ∀ e ∈ E2, e ∈ E1) {n m : Nat} (hnm : n ≠ m) {h : Hh} {Q : VKT} (e1 : h[n]? = some (.dict (DB C E1))) (e2 : h[m]? = some (.dict (DB C E2))) (q : Q (.bl true) h) : g_l_same (d + 2) [.ref n, .ref m] h Q := by
  have k1 := kind_d e1
  have k2 := kind_d e2
  refine ⟨rfl, ?_⟩
  refine same_first rfl rfl rfl ?_
  refine seq_ok (isi_no rfl k2 rfl (seq_ok (isi_no rfl k2 rfl (seq_ok (isi_yes rfl k2 rfl (seq_ok (isi_or rfl k1 rfl ?_)))))))
  refine ⟨_, rfl, nil_ok (len_d e1 ⟨_, rfl, nil_ok (len_d e2 (eq_i (neg := true) ⟨_, rfl, ite_decN (fun z => absurd (by rw [DB_len, DB_len, hl]) z) fun _ => ?_⟩))⟩)⟩
  have f1 : (h.set m (.frd (DB C E2)))[n]? = some (.dict (DB C E1)) := by rw [List.getElem?_set_ne (fun z => hnm z.symm)]; exact e1
  have f2 : (h.set m (.frd (DB C E2)))[m]? = some (.frd (DB C E2)) := set_same e2
  have back : (h.set m (.frd (DB C E2))).set m (.dict (DB C E2)) = h := by
    rw [List.set_set]
    apply List.ext_getElem?
    intro i
    by_cases z : m = i
    · subst z; rw [set_same e2, e2]
    · rw [List.getElem?_set_ne z]
  refine ⟨m, DB C E2, rfl, e2, DB_tup C E2, fun j s h' => ∃ y2 : Option T, s = [some (.ref n), some (.ref m), y2, none] ∧ h' = h.set m (.frd (DB C E2)), ⟨none, rfl, rfl⟩, ?_, ?_⟩
  · rintro j p s h' hj ⟨y2, rfl, rfl⟩
    obtain ⟨e, rfl, he⟩ := db_get hj
    have he1 := hs e he
    refine ⟨_, rfl, _, rfl, notIn_DB (.inl f1) he1 ⟨false, rfl, ite_ff ?_⟩⟩
    refine ⟨_, rfl, _, rfl, ix_DB (.inl f1) he1 ⟨_, rfl, _, rfl, ix_DB (.inr f2) he (nil_ok (k_same_a d (some (C e : Int)) ⟨true, rfl, ite_ff ⟨_, rfl, rfl⟩⟩))⟩⟩
  · rintro s h' ⟨y2, rfl, rfl⟩
    rw [back]
    exact q
end K60

namespace K60
open PySem PySem.Spec L2 Tr

/-! ### the answers -/
theorem ans_mem (x : Int) : ∀ (ws acc : List Int), x ∈ ws.foldl ansStep acc ↔ x ∈ acc ∨ x ∈ ws
  | [], acc => by simp
  | a :: ws, acc => by
    rw [List.foldl_cons, ans_mem x ws]
    unfold ansStep
    by_cases h : a ∈ acc
    · rw [if_pos h]
      constructor
      · rintro (z | z)
        · exact .inl z
        · exact .inr (List.mem_cons_of_mem _ z)
      · rintro (z | z)
        · exact .inl z
        · rcases List.mem_cons.mp z with y | y
          · subst y; exact .inl h
          · exact .inr y
    · rw [if_neg h]
      simp only [List.mem_append, List.mem_cons, List.not_mem_nil, or_false]
      constructor
      · rintro ((z | z) | z) <;> simp [z]
      · rintro (z | z | z) <;> simp [z]
theorem mem_ans {x : Int} {ws : List Int} : x ∈ ansL ws ↔ x ∈ ws := by
  unfold ansL
  rw [ans_mem]; simp
theorem ans_nd : ∀ (ws acc : List Int), acc.Nodup → (ws.foldl ansStep acc).Nodup
  | [], acc, h => h
  | a :: ws, acc, h => by
    rw [List.foldl_cons]
    refine ans_nd ws _ ?_
    unfold ansStep
    by_cases z : a ∈ acc
    · rw [if_pos z]; exact h
    · rw [if_neg z, List.nodup_append]
      refine ⟨h, by simp, fun x hx y hy e => ?_⟩
      have : y = a := by simpa using hy
      subst this; subst e
      exact z hx
abbrev tops (ws : List Int) : List (Option Int) := none :: (ansL ws).map some
theorem tops_nd (ws : List Int) : (tops ws).Nodup := by
  rw [List.nodup_cons]
  refine ⟨by simp, ?_⟩
  have := ans_nd ws [] List.nodup_nil
  exact List.Pairwise.map _ (fun a b h z => h (Option.some.inj z)) this
theorem tops_len (ws : List Int) : (tops ws).length ≤ ws.length + 1 := by
  have := ans_len ws []
  simp at this ⊢
  exact this
theorem tops_map (ws : List Int) : (tops ws).map toT = .non :: Li (ansL ws) := by
  rw [List.map_cons, List.map_map]; rfl
/-! ### least of them -/
theorem fold_min (f : Int → Nat) : ∀ (ws : List Int) (b : Nat), let F := ws.foldl (fun b x => min b (f x)) b; F ≤ b ∧ (∀ x ∈ ws, F ≤ f x) ∧ (F = b ∨ ∃ x ∈ ws, F = f x)
  | [], b => ⟨Nat.le_refl _, fun _ h => (nomatch h), .inl rfl⟩
  | a :: ws, b => by
    obtain ⟨h1, h2, h3⟩ := fold_min f ws (min b (f a))
    refine ⟨Nat.le_trans h1 (Nat.min_le_left _ _), fun x hx => ?_, ?_⟩
    · rcases List.mem_cons.mp hx with z | z
      · subst z; exact Nat.le_trans h1 (Nat.min_le_right _ _)
      · exact h2 x z
    · rcases h3 with z | ⟨x, hx, z⟩
      · by_cases y : b ≤ f a
        · exact .inl (z.trans (Nat.min_eq_left y))
        · exact .inr ⟨a, List.mem_cons_self, z.trans (Nat.min_eq_right (by omega))⟩
      · exact .inr ⟨x, List.mem_cons_of_mem _ hx, z⟩
/-- what both halves cost together -/
def both (ws : List Int) (k t : Nat) (a : Option Int) : Nat := cst ws k (2 * t) a + cst ws k (2 * t + 1) a
theorem cst_least {ws : List Int} {k t : Nat} {a : Option Int} {m : Int} (h1 : m ∈ (ansL ws).map fun x => ((both ws k t (some x) : Nat) : Int)) (h2 : ∀ y ∈ (ansL ws).map fun x => ((both ws k t (some x) : Nat) : Int), m ≤ y) :
    min ((both ws k t a : Nat) : Int) (1 + m) = ((cst ws (k + 1) t a : Nat) : Int) := by
  obtain ⟨x0, hx0, rfl⟩ := List.mem_map.mp h1
  have h3 : ∀ x ∈ ws, both ws k t (some x0) ≤ both ws k t (some x) := fun x hx => by
    have := h2 _ (List.mem_map.mpr ⟨x, mem_ans.mpr hx, rfl⟩)
    omega
  obtain ⟨f1, f2, f3⟩ := fold_min (fun x => 1 + cst ws k (2 * t) (some x) + cst ws k (2 * t + 1) (some x)) ws (both ws k t a)
  have e : cst ws (k + 1) t a = ws.foldl (fun b x => min b (1 + cst ws k (2 * t) (some x) + cst ws k (2 * t + 1) (some x))) (both ws k t a) := rfl
  rw [e]
  have f2' := f2 x0 (mem_ans.mp hx0)
  unfold both at *
  rcases f3 with z | ⟨x, hx, z⟩
  · omega
  · have := h3 x hx
    omega

/-! ### cost_table -/
def tolds (As : List (Option Int)) (l n : Nat) : List Ek := (List.range n).flatMap fun t => As.map fun a => (l, t, a)
def lvl (As : List (Option Int)) (l : Nat) : List Ek := tolds As l (2 ^ l)
def down (As : List (Option Int)) (D k : Nat) : List Ek := (List.range k).flatMap fun j => lvl As (D - j)
theorem flat_len {α β : Type} {f : α → List β} {B : Nat} : ∀ {l : List α}, (∀ a ∈ l, (f a).length ≤ B) → (l.flatMap f).length ≤ l.length * B
  | [], _ => by simp
  | a :: l, h => by
    have ih := flat_len (f := f) (B := B) (l := l) fun b hb => h b (List.mem_cons_of_mem _ hb)
    have := h a List.mem_cons_self
    rw [List.flatMap_cons, List.length_append, List.length_cons, Nat.succ_mul]
    omega
theorem tolds_len {As : List (Option Int)} (ha : As.length ≤ 9) (l : Nat) {n : Nat} (hn : n ≤ 8) : (tolds As l n).length ≤ 72 := by
  have := flat_len (l := List.range n) (f := fun t => As.map fun a => ((l, t, a) : Ek)) (B := 9) fun t _ => by simpa using ha
  rw [List.length_range] at this
  unfold tolds; omega
theorem down_len {As : List (Option Int)} (ha : As.length ≤ 9) {D k : Nat} (hD : D ≤ 3) (hk : k ≤ 4) : (down As D k).length ≤ 288 := by
  have := flat_len (l := List.range k) (f := fun j => lvl As (D - j)) (B := 72) fun j _ => tolds_len ha _ (pow_rng (show D - j ≤ 3 by omega)).2.2
  rw [List.length_range] at this
  unfold down; omega
theorem mem_tolds {As : List (Option Int)} {l n : Nat} {e : Ek} : e ∈ tolds As l n ↔ e.1 = l ∧ e.2.1 < n ∧ e.2.2 ∈ As := by
  obtain ⟨l', t', a'⟩ := e
  unfold tolds
  simp only [List.mem_flatMap, List.mem_map, List.mem_range, Prod.mk.injEq]
  constructor
  · rintro ⟨t, ht, a, ha, rfl, rfl, rfl⟩; exact ⟨rfl, ht, ha⟩
  · rintro ⟨rfl, ht, ha⟩; exact ⟨t', ht, a', ha, rfl, rfl, rfl⟩
theorem mem_down {As : List (Option Int)} {D k : Nat} (hk : k ≤ D + 1) {e : Ek} : e ∈ down As D k ↔ D < e.1 + k ∧ e.1 ≤ D ∧ e.2.1 < 2 ^ e.1 ∧ e.2.2 ∈ As := by
  unfold down
  simp only [List.mem_flatMap, List.mem_range]
  unfold lvl
  constructor
  · rintro ⟨j, hj, he⟩
    obtain ⟨h1, h2, h3⟩ := mem_tolds.mp he
    exact ⟨by omega, by omega, by rw [h1]; exact h2, h3⟩
  · rintro ⟨h1, h2, h3, h4⟩
    refine ⟨D - e.1, by omega, mem_tolds.mpr ⟨by omega, ?_, h4⟩⟩
    rw [show D - (D - e.1) = e.1 by omega]; exact h3
def CC (ws : List Int) (D : Nat) (e : Ek) : Nat := cst ws (D - e.1) e.2.1 e.2.2

/-! the dict plain -/
def PB (P : Option Int → Nat) (E : List (Option Int)) : List (T × T) := E.map fun a => (toT a, T.int (P a : Nat))
theorem toT_ok (a : Option Int) : okKey (toT a) = true := by cases a <;> rfl
theorem toT_tup (a : Option Int) : isTup (toT a) = false := by cases a <;> rfl
theorem PB_kind (P : Option Int → Nat) (E : List (Option Int)) (a : Option Int) : sameKind (PB P E) (toT a) := by
  intro p hp
  obtain ⟨e, _, rfl⟩ := List.mem_map.mp hp
  exact (toT_tup e).trans (toT_tup a).symm
theorem PB_inj : ∀ a b : Option Int, kq (toT a) = kq (toT b) → a = b := fun _ _ h => toT_kq h
theorem ix_PB {P : Option Int → Nat} {E : List (Option Int)} {a : Option Int} {n : Nat} {h : Hh} {Q : VKT} (hn : h[n]? = some (.dict (PB P E))) (m : a ∈ E) (q : Q (.int (P a : Nat)) h) : gIxA (.ref n) (toT a) h Q :=
  ix_d (.inl hn) (toT_ok a) (PB_kind P E a) (dget_map (vf := fun a => T.int (P a : Nat)) PB_inj m) q
theorem set_PB {P : Option Int → Nat} {E : List (Option Int)} {a : Option Int} {n : Nat} {h : Hh} {Q : Hh → Prop} (hn : h[n]? = some (.dict (PB P E))) (m : a ∉ E) (hz : E.length ≤ 1000) (q : Q (h.set n (.dict (PB P (E ++ [a]))))) : gSetA (.ref n) (toT a) (.int (P a : Nat)) h Q :=
  .inr ⟨n, _, rfl, hn, toT_ok a, PB_kind P E a, by unfold PB; rw [List.length_map]; exact small hz, by
    have e : dput (PB P E) (toT a) (.int (P a : Nat)) = PB P (E ++ [a]) := dput_map (vf := fun a => T.int (P a : Nat)) PB_inj m
    rw [e]; exact q⟩
theorem nd_take {α : Type} {l : List α} (nd : l.Nodup) {i : Nat} {x : α} (h : l[i]? = some x) : x ∉ l.take i := by
  intro hx
  obtain ⟨j, hj, e⟩ := List.mem_take_iff_getElem.mp hx
  obtain ⟨hi, e2⟩ := List.getElem?_eq_some_iff.mp h
  have : j < l.length := by omega
  have := (List.getElem_inj nd (h₀ := this) (h₁ := hi)).mp (e.trans e2.symm)
  omega
theorem as_get {As : List (Option Int)} {i : Nat} {y : T} (h : (As.map toT)[i]? = some y) : ∃ a, y = toT a ∧ As[i]? = some a ∧ i < As.length := by
  rw [List.getElem?_map] at h
  cases e : As[i]? with
  | none => rw [e] at h; cases h
  | some a => rw [e] at h; cases h; exact ⟨a, rfl, rfl, (List.getElem?_eq_some_iff.mp e).1⟩
theorem take_snoc {α : Type} {l : List α} {i : Nat} {x : α} (h : l[i]? = some x) : l.take i ++ [x] = l.take (i + 1) := by rw [List.take_add_one, h]; rfl
/-- a turn of told: the two halves' costs are there -/
def PP (ws : List Int) (k t : Nat) (a : Option Int) : Nat := match k with
  | 0 => cst ws 0 t a
  | k + 1 => both ws k t a
end K60

namespace K60
open PySem PySem.Spec L2 Tr

theorem asg_ok {fe : WE} {g : WG} {D : EndsT} {s : Sl} {h : Hh} (q : fe s h fun t h1 => g t s h1 D.nx) : wAsg fe g D s h := q
theorem cons_ok {f : WE} {g : WA} {s : Sl} {h : Hh} {Q : List T → Hh → Prop} (q : f s h fun x h1 => g s h1 fun xs h2 => Q (x :: xs) h2) : wCons f g s h Q := q
theorem bin_ok {g : G2} {fa fb : WE} {s : Sl} {h : Hh} {Q : VKT} (q : fa s h fun x h1 => fb s h1 fun y h2 => g x y h2 Q) : wBin g fa fb s h Q := q
theorem cut1 {x : T} {xs : List T} : cutT (x :: xs) (some 1) none = xs := by
  unfold cutT
  rw [show HT.sIx (x :: xs).length 0 (some 1) = min 1 (x :: xs).length from HT.sIx_nat (x :: xs).length 0 1, HT.sIx_none]
  rw [show min 1 (x :: xs).length = 1 by rw [List.length_cons]; omega]
  show List.take ((x :: xs).length - 1) xs = xs
  rw [List.length_cons, Nat.add_sub_cancel, List.take_length]
abbrev pl1 : WS := wFor (wV 2) (gNm 7) (wIfS (wTst (wBin (gEqD false) (wV 4) (wV 1))) (wAsg (wIf (wOr (wTst (wBin gGe (wV 5) (wCall gLen (wCons (wV 0) wNil)))) (wTst (wBin (gEqD false) (wBin gIxA (wV 0) (wV 5)) (wV 7)))) (wC (.int 0)) (wC (.int 1))) (gSb (wV 6) (wV 7) gSetA)) (wAsg (wBin gAdd (wBin gIxA (wV 3) (wTup (wCons (wBin gAdd (wV 4) (wC (.int 1))) (wCons (wBin gMul (wC (.int 2)) (wV 5)) (wCons (wV 7) wNil))))) (wBin gIxA (wV 3) (wTup (wCons (wBin gAdd (wV 4) (wC (.int 1))) (wCons (wBin gAdd (wBin gMul (wC (.int 2)) (wV 5)) (wC (.int 1))) (wCons (wV 7) wNil)))))) (gSb (wV 6) (wV 7) gSetA)))
abbrev pl2 : WS := wAsg (wCall gMinA (wCons (wLc [7] (wSl gSl (wV 2) (wPart (wC (.int 1))) wNoP) (gNm 7) wYes (wBin gIxA (wV 6) (wV 7))) wNil)) (gNm 8)
abbrev pl3 : WS := wFor (wV 2) (gNm 7) (wAsg (wIf (wTst (wBin gLt (wV 4) (wV 1))) (wCall gMinA (wCons (wBin gIxA (wV 6) (wV 7)) (wCons (wBin gAdd (wC (.int 1)) (wV 8)) wNil))) (wBin gIxA (wV 6) (wV 7))) (gSb (wV 3) (wTup (wCons (wV 4) (wCons (wV 5) (wCons (wV 7) wNil)))) gSetA))
theorem plain_ok {ws : List Int} {D : Nat} (hw : ws.length ≤ 8) {k : Nat} (hk : k ≤ D) {t : Nat} {na nt : Nat} {h0 h1 : Hh} {y7 y8 : Option T} {De : EndsT} {E : List Ek}
    (ea : h0[na]? = some (.lst ((tops ws).map toT))) (et : h0[nt]? = some (.dict (DB (CC ws D) E))) (hE : ∀ k', k = k' + 1 → ∀ a ∈ tops ws, (D - k', 2 * t, a) ∈ E ∧ (D - k', 2 * t + 1, a) ∈ E)
    (g1 : Gr h0 h1) (e6 : h1[h0.length]? = some (.dict []))
    (q : ∀ h2 y7, Gr h0 h2 → h2[h0.length]? = some (.dict (PB (PP ws k t) (tops ws))) → De.nx [some (.tup (Li ws)), some (.int (D : Nat)), some (.ref na), some (.ref nt), some (.int (D - k : Nat)), some (.int (t : Nat)), some (.ref h0.length), y7, y8] h2) :
    pl1 De [some (.tup (Li ws)), some (.int (D : Nat)), some (.ref na), some (.ref nt), some (.int (D - k : Nat)), some (.int (t : Nat)), some (.ref h0.length), y7, y8] h1 := by
  have hAs : (tops ws).length ≤ 9 := by have := tops_len ws; omega
  refine ⟨_, rfl, (tops ws).map toT, seqT_ref (g1 _ _ ea), fun i s h2 => ∃ y7 : Option T, s = [some (.tup (Li ws)), some (.int (D : Nat)), some (.ref na), some (.ref nt), some (.int (D - k : Nat)), some (.int (t : Nat)), some (.ref h0.length), y7, y8] ∧ Gr h0 h2 ∧
    h2[h0.length]? = some (.dict (PB (PP ws k t) ((tops ws).take i))), ⟨_, rfl, g1, e6⟩, ?_, ?_, ?_⟩
  · rintro i s h2 _ ⟨_, _, g2, _⟩; exact seqT_ref (g2 _ _ ea)
  · rintro i y s h2 hi ⟨y7, rfl, g2, e6⟩
    obtain ⟨a, rfl, ha, hil⟩ := as_get hi
    have ham : a ∈ tops ws := List.mem_of_getElem? ha
    have put : gSetA (.ref h0.length) (toT a) (.int (PP ws k t a : Nat)) h2 fun h3 => ∃ y7 : Option T, [some (.tup (Li ws)), some (.int (D : Nat)), some (.ref na), some (.ref nt), some (.int (D - k : Nat)), some (.int (t : Nat)), some (.ref h0.length), some (toT a), y8] = [some (.tup (Li ws)), some (.int (D : Nat)), some (.ref na), some (.ref nt), some (.int (D - k : Nat)), some (.int (t : Nat)), some (.ref h0.length), y7, y8] ∧ Gr h0 h3 ∧
        h3[h0.length]? = some (.dict (PB (PP ws k t) ((tops ws).take (i + 1)))) :=
      set_PB e6 (nd_take (tops_nd ws) ha) (by rw [List.length_take]; omega) ⟨_, rfl, g2.set (Nat.le_refl _), by rw [set_same e6, take_snoc ha]⟩
    refine ⟨_, rfl, _, rfl, eq_i (neg := false) ⟨_, rfl, ite_dec (fun hy => ?_) fun hn => ?_⟩⟩
    · have k0 : k = 0 := by omega
      subst k0
      change gSetA (.ref h0.length) (toT a) (.int (cst ws 0 t a : Nat)) h2 _ at put
      refine asg_ok ?_
      refine ⟨_, rfl, _, rfl, nil_ok (len_s rfl (ge_i ⟨_, rfl, ite_dec (fun hge => ite_tt ?_) fun hlt => ?_⟩))⟩
      · have : ws.length ≤ t := by simp at hge; omega
        rw [show cst ws 0 t a = 0 by unfold cst; rw [if_pos (.inl this)]] at put
        exact ⟨_, rfl, _, rfl, put⟩
      · have hl : t < ws.length := by simp at hlt; omega
        refine ⟨_, rfl, _, rfl, ix_s (i := t) rfl (li_at (List.getElem?_eq_getElem hl)) ⟨_, rfl, eq_a (neg := false) (a := some ws[t]) (b := a) ⟨_, rfl, ite_dec (fun hy => ?_) fun hn => ?_⟩⟩⟩
        · rw [show cst ws 0 t a = 0 by unfold cst; rw [if_pos (.inr (by rw [List.getElem?_eq_getElem hl]; exact hy))]] at put
          exact ⟨_, rfl, _, rfl, put⟩
        · rw [show cst ws 0 t a = 1 by unfold cst; rw [if_neg]; rintro (z | z); omega; exact hn (by rw [List.getElem?_eq_getElem hl] at z; exact z)] at put
          exact ⟨_, rfl, _, rfl, put⟩
    · obtain ⟨k', rfl⟩ : ∃ k', k = k' + 1 := ⟨k - 1, by omega⟩
      obtain ⟨m1, m2⟩ := hE k' rfl a ham
      have c0 : ((D - (k' + 1) : Nat) : Int) + 1 = ((D - k' : Nat) : Int) := by omega
      have c1 : ((2 : Int) * (t : Nat)) = ((2 * t : Nat) : Int) := by omega
      have c2 : ((2 : Int) * (t : Nat) + 1) = ((2 * t + 1 : Nat) : Int) := by omega
      have et2 : dAt h2 nt (DB (CC ws D) E) := .inl (g2 _ _ et)
      refine asg_ok ?_
      refine ⟨_, rfl, _, rfl, add_i ⟨_, rfl, mul_i (two_mul_ok _) ⟨_, rfl, nil_ok ⟨small' (by simp), ?_⟩⟩⟩⟩
      rw [c0, c1]
      refine ix_DB (e := (D - k', 2 * t, a)) et2 m1 ⟨_, rfl, _, rfl, add_i ⟨_, rfl, mul_i (two_mul_ok _) (add_i ⟨_, rfl, nil_ok ⟨small' (by simp), ?_⟩⟩)⟩⟩
      rw [c2, c0]
      refine ix_DB (e := (D - k', 2 * t + 1, a)) et2 m2 (add_i ⟨_, rfl, _, rfl, ?_⟩)
      have e : ((CC ws D (D - k', 2 * t, a) : Nat) : Int) + ((CC ws D (D - k', 2 * t + 1, a) : Nat) : Int) = ((PP ws (k' + 1) t a : Nat) : Int) := by
        show ((cst ws (D - (D - k')) (2 * t) a : Nat) : Int) + ((cst ws (D - (D - k')) (2 * t + 1) a : Nat) : Int) = ((cst ws k' (2 * t) a + cst ws k' (2 * t + 1) a : Nat) : Int)
        rw [show D - (D - k') = k' by omega]
        omega
      rw [e]
      exact put
  · rintro s h2 ⟨y7, rfl, g2, e6⟩
    rw [List.length_map, List.take_length] at e6
    exact q h2 y7 g2 e6
theorem least_ok {ws : List Int} {P : Option Int → Nat} (hw : ws.length ≤ 8) (hne : ws ≠ []) {n6 na : Nat} {a b c d e : T} {h : Hh} {y7 y8 : Option T} {De : EndsT}
    (ea : h[na]? = some (.lst ((tops ws).map toT))) (e6 : h[n6]? = some (.dict (PB P (tops ws))))
    (q : ∀ h2 m, Gr h h2 → m ∈ (ansL ws).map (fun x => ((P (some x) : Nat) : Int)) → (∀ y ∈ (ansL ws).map (fun x => ((P (some x) : Nat) : Int)), m ≤ y) → De.nx [some a, some b, some (.ref na), some c, some d, some e, some (.ref n6), y7, some (.int m)] h2) :
    pl2 De [some a, some b, some (.ref na), some c, some d, some e, some (.ref n6), y7, y8] h := by
  have hal : (ansL ws).length ≤ 8 := by have := ans_len ws []; simp at this; unfold ansL; omega
  have ha0 : 0 < (ansL ws).length := by
    cases ws with
    | nil => exact absurd rfl hne
    | cons x r => exact List.length_pos_of_mem (mem_ans.mpr List.mem_cons_self)
  refine asg_ok ?_
  refine ⟨_, rfl, 1, rfl, .inl ⟨na, (tops ws).map toT, rfl, seqT_ref ea, ?_⟩⟩
  have ec : cutT ((tops ws).map toT) (some 1) none = Li (ansL ws) := by rw [tops_map]; exact cut1
  rw [ec]
  have g1 := gr_new h (O.lst (Li (ansL ws)))
  have en := get_new h (O.lst (Li (ansL ws)))
  generalize h ++ [O.lst (Li (ansL ws))] = h1 at *
  generalize h.length = n1 at *
  refine ⟨Li (ansL ws), seqT_ref en, fun i acc h2 => Gr h1 h2 ∧ acc = ((ansL ws).take i).map (fun x => T.int (P (some x) : Nat)), ⟨Gr.refl _, rfl⟩, fun i acc h2 _ ⟨g, _⟩ => seqT_ref (g _ _ en), ?_, ?_⟩
  · rintro i y acc h2 hi ⟨g2, rfl⟩
    obtain ⟨x, rfl, hx, hlt⟩ := li_get hi
    refine step_nm ⟨_, rfl, _, rfl, ix_PB (a := some x) (g2 _ _ (g1 _ _ e6)) (List.mem_cons_of_mem _ (List.mem_map.mpr ⟨x, List.mem_of_getElem? hx, rfl⟩)) ⟨?_, g2, ?_⟩⟩
    · refine small ?_
      simp; omega
    · rw [← take_snoc hx, List.map_append]; rfl
  · rintro acc h2 ⟨g2, rfl⟩
    rw [List.length_map, List.take_length]
    have e : (ansL ws).map (fun x => T.int (P (some x) : Nat)) = Li ((ansL ws).map fun x => ((P (some x) : Nat) : Int)) := by
      show _ = ((ansL ws).map _).map T.int
      rw [List.map_map]; rfl
    rw [e]
    refine nil_ok (min_ok (get_new _ _) (by rw [List.length_map]; exact ha0) fun m h1 h2 => ?_)
    exact q _ m (g1.trans (g2.trans (gr_new _ _))) h1 h2
theorem store_ok {ws : List Int} {D : Nat} (hD : D ≤ 3) (hw : ws.length ≤ 8) {k : Nat} (hk : k ≤ D) {t : Nat} {na nt n6 : Nat} {h h1 : Hh} {y7 : Option T} {m : Int} {De : EndsT} {E : List Ek} (hE : E.length ≤ 900) (hnew : ∀ a, (D - k, t, a) ∉ E)
    (ea : h1[na]? = some (.lst ((tops ws).map toT))) (hnn : na ≠ nt) (g : Gr h h1) (hle : h.length ≤ nt) (et : h1[nt]? = some (.dict (DB (CC ws D) E))) (e6 : h1[n6]? = some (.dict (PB (PP ws k t) (tops ws)))) (h6 : n6 ≠ nt)
    (hm : ∀ k', k = k' + 1 → m ∈ (ansL ws).map (fun x => ((both ws k' t (some x) : Nat) : Int)) ∧ ∀ y ∈ (ansL ws).map (fun x => ((both ws k' t (some x) : Nat) : Int)), m ≤ y)
    (q : ∀ h2 y7, Gr h h2 → h2[na]? = some (.lst ((tops ws).map toT)) → h2[nt]? = some (.dict (DB (CC ws D) (E ++ (tops ws).map fun a => (D - k, t, a)))) → De.nx [some (.tup (Li ws)), some (.int (D : Nat)), some (.ref na), some (.ref nt), some (.int (D - k : Nat)), some (.int (t : Nat)), some (.ref n6), y7, some (.int m)] h2) :
    pl3 De [some (.tup (Li ws)), some (.int (D : Nat)), some (.ref na), some (.ref nt), some (.int (D - k : Nat)), some (.int (t : Nat)), some (.ref n6), y7, some (.int m)] h1 := by
  have hAs : (tops ws).length ≤ 9 := by have := tops_len ws; omega
  refine ⟨_, rfl, (tops ws).map toT, seqT_ref ea, fun i s h2 => ∃ y7 : Option T, s = [some (.tup (Li ws)), some (.int (D : Nat)), some (.ref na), some (.ref nt), some (.int (D - k : Nat)), some (.int (t : Nat)), some (.ref n6), y7, some (.int m)] ∧ Gr h h2 ∧
    h2[nt]? = some (.dict (DB (CC ws D) (E ++ ((tops ws).take i).map fun a => (D - k, t, a)))) ∧ h2[n6]? = some (.dict (PB (PP ws k t) (tops ws))) ∧ h2[na]? = some (.lst ((tops ws).map toT)), ⟨_, rfl, g, by simpa using et, e6, ea⟩, ?_, ?_, ?_⟩
  · rintro i s h2 _ ⟨_, _, _, _, _, ea2⟩; exact seqT_ref ea2
  · rintro i y s h2 hi ⟨y7, rfl, g2, et2, e62, ea2⟩
    obtain ⟨a, rfl, ha, hil⟩ := as_get hi
    have ham : a ∈ tops ws := List.mem_of_getElem? ha
    have hnot : (D - k, t, a) ∉ E ++ ((tops ws).take i).map fun a => ((D - k, t, a) : Ek) := by
      intro z
      rcases List.mem_append.mp z with z | z
      · exact hnew a z
      · obtain ⟨b, hb, e⟩ := List.mem_map.mp z
        cases e
        exact nd_take (tops_nd ws) ha hb
    have put : gSetA (.ref nt) (keyT (D - k, t, a)) (.int (CC ws D (D - k, t, a) : Nat)) h2 fun h3 => ∃ y7 : Option T, [some (.tup (Li ws)), some (.int (D : Nat)), some (.ref na), some (.ref nt), some (.int (D - k : Nat)), some (.int (t : Nat)), some (.ref n6), some (toT a), some (.int m)] = [some (.tup (Li ws)), some (.int (D : Nat)), some (.ref na), some (.ref nt), some (.int (D - k : Nat)), some (.int (t : Nat)), some (.ref n6), y7, some (.int m)] ∧ Gr h h3 ∧
        h3[nt]? = some (.dict (DB (CC ws D) (E ++ ((tops ws).take (i + 1)).map fun a => (D - k, t, a)))) ∧ h3[n6]? = some (.dict (PB (PP ws k t) (tops ws))) ∧ h3[na]? = some (.lst ((tops ws).map toT)) := by
      refine set_DB et2 hnot (by simp; omega) ⟨_, rfl, g2.set hle, ?_, ?_, by rw [List.getElem?_set_ne (fun z => hnn z.symm)]; exact ea2⟩
      · rw [set_same et2, ← take_snoc ha, List.map_append, List.append_assoc]; rfl
      · rw [List.getElem?_set_ne (fun z => h6 z.symm)]; exact e62
    have eC : CC ws D (D - k, t, a) = cst ws k t a := by
      unfold CC
      rw [show D - (D - k) = k by omega]
    rw [eC] at put
    refine asg_ok ?_
    refine ⟨_, rfl, _, rfl, lt_i ⟨_, rfl, ite_dec (fun hy => ?_) fun hn => ?_⟩⟩
    · obtain ⟨k', rfl⟩ : ∃ k', k = k' + 1 := ⟨k - 1, by omega⟩
      obtain ⟨m1, m2⟩ := hm k' rfl
      refine ⟨_, rfl, _, rfl, ix_PB e62 ham (cons_ok (bin_ok (c_ok (v_ok rfl (add_i (nil_ok (min2_ok ?_)))))))⟩
      change gSetA _ _ _ _ _ at put
      have e : min ((PP ws (k' + 1) t a : Nat) : Int) (1 + m) = ((cst ws (k' + 1) t a : Nat) : Int) := cst_least m1 m2
      rw [e]
      exact ⟨_, rfl, _, rfl, _, rfl, _, rfl, nil_ok ⟨small' (by simp), put⟩⟩
    · have k0 : k = 0 := by omega
      subst k0
      refine ⟨_, rfl, _, rfl, ix_PB e62 ham ?_⟩
      exact ⟨_, rfl, _, rfl, _, rfl, _, rfl, nil_ok ⟨small' (by simp), put⟩⟩
  · rintro s h2 ⟨y7, rfl, g2, et2, e62, ea2⟩
    rw [List.length_map, List.take_length] at et2
    exact q h2 y7 g2 ea2 et2
end K60

namespace K60
open PySem PySem.Spec L2 Tr

theorem k_cost {ws : List Int} (hw : ws.length ≤ 8) (hne : ws ≠ []) {D : Nat} (eD : D = bitsN ws.length) {h : Hh} {Q : VKT}
    (q : ∀ (h' : Hh) (nt : Nat), Gr h h' → h.length ≤ nt → h'[nt]? = some (.dict (DB (CC ws D) (down (tops ws) D (D + 1)))) → Q (.ref nt) h') : g_cost_table [.tup (Li ws)] h Q := by
  have hl : (Li ws).length = ws.length := List.length_map ..
  have hD : D ≤ 3 := by rw [eD]; exact bits_le3 _
  have hAs : (tops ws).length ≤ 9 := by have := tops_len ws; omega
  have hal : (ansL ws).length ≤ 8 := by have := ans_len ws []; simp at this; unfold ansL; omega
  refine ⟨rfl, _, rfl, nil_ok (len_s rfl (nil_ok (k_bits (by omega) ?_)))⟩
  rw [hl, ← eD]
  refine ⟨small' (by simp), _, rfl, nil_ok (k_answers (by omega) ?_)⟩
  refine cat_ok ((gr_new _ _) _ _ (get_new _ _)) (get_new _ _) (small' (by simp; omega)) ?_
  have ga : Gr h (h ++ [O.lst [T.non]] ++ [O.lst (Li (ansL ws))] ++ [O.lst ([T.non] ++ Li (ansL ws))]) := (gr_new _ _).trans ((gr_new _ _).trans (gr_new _ _))
  have ea : (h ++ [O.lst [T.non]] ++ [O.lst (Li (ansL ws))] ++ [O.lst ([T.non] ++ Li (ansL ws))])[(h ++ [O.lst [T.non]] ++ [O.lst (Li (ansL ws))]).length]? = some (.lst ((tops ws).map toT)) := by
    rw [tops_map]; exact get_new _ _
  generalize h ++ [O.lst [T.non]] ++ [O.lst (Li (ansL ws))] ++ [O.lst ([T.non] ++ Li (ansL ws))] = h1 at *
  generalize (h ++ [O.lst [T.non]] ++ [O.lst (Li (ansL ws))]).length = na at *
  have hna : na < h1.length := (List.getElem?_eq_some_iff.mp ea).1
  have g1 := ga.trans (gr_new h1 (O.dict []))
  have et := get_new h1 (O.dict [])
  have ea1 := (gr_new h1 (O.dict [])) _ _ ea
  have hle : h.length ≤ h1.length := ga.len
  have hnt : na ≠ h1.length := by omega
  have en : (((D : Nat) : Int) - (-1)).toNat = D + 1 := by omega
  refine ⟨_, rfl, 1, rfl, 1, rfl, nil_ok ⟨D, -1, -1, D + 1, rfl, by rw [← en]; exact RgC.neg (by omega) (by omega) (by decide) (by decide), fun k s h2 => ∃ y4 y5 y6 y7 y8 : Option T, s = [some (.tup (Li ws)), some (.int (D : Nat)), some (.ref na), some (.ref h1.length), y4, y5, y6, y7, y8] ∧ Gr h h2 ∧
    h2[na]? = some (.lst ((tops ws).map toT)) ∧ h2[h1.length]? = some (.dict (DB (CC ws D) (down (tops ws) D k))), ⟨_, _, _, _, _, rfl, g1, ea1, et⟩, ?_, ?_⟩⟩
  · rintro k s h2 hk ⟨y4, y5, y6, y7, y8, rfl, g2, ea2, et2⟩
    have hkD : k ≤ D := by omega
    have c : ((D : Nat) : Int) + ((k : Nat) : Int) * (-1) = ((D - k : Nat) : Int) := by omega
    rw [c]
    obtain ⟨b1, b2, b3⟩ := pow_rng (show D - k ≤ 3 by omega)
    have hdl := down_len hAs hD (show k ≤ 4 by omega)
    refine ⟨_, rfl, nil_ok (k_power (by omega) (nil_ok ⟨_, rfl, b1, b2, fun t s h3 => ∃ y5 y6 y7 y8 : Option T, s = [some (.tup (Li ws)), some (.int (D : Nat)), some (.ref na), some (.ref h1.length), some (.int (D - k : Nat)), y5, y6, y7, y8] ∧ Gr h h3 ∧
      h3[na]? = some (.lst ((tops ws).map toT)) ∧ h3[h1.length]? = some (.dict (DB (CC ws D) (down (tops ws) D k ++ tolds (tops ws) (D - k) t))), ⟨_, _, _, _, rfl, g2, ea2, ?_⟩, ?_, ?_⟩))⟩
    · rw [show tolds (tops ws) (D - k) 0 = [] from rfl, List.append_nil]; exact et2
    · rintro t s h3 ht ⟨y5, y6, y7, y8, rfl, g3, ea3, et3⟩
      have ht' : t < 2 ^ (D - k) := ht
      have htl := tolds_len hAs (D - k) (show t ≤ 8 by omega)
      have hl3 : h1.length < h3.length := (List.getElem?_eq_some_iff.mp et3).1
      refine plain_ok hw hkD (E := down (tops ws) D k ++ tolds (tops ws) (D - k) t) (h0 := h3) ea3 et3 ?_ (gr_new _ _) (get_new _ _) fun h4 y7 g4 e6 => ?_
      · rintro k' rfl a ha
        have hp : 2 ^ (D - k') = 2 * 2 ^ (D - (k' + 1)) := by
          rw [show D - k' = (D - (k' + 1)) + 1 by omega, Nat.pow_succ]; omega
        constructor
        · exact List.mem_append_left _ ((mem_down (by omega)).mpr ⟨by show D < D - k' + (k' + 1); omega, by show D - k' ≤ D; omega, by show 2 * t < 2 ^ (D - k'); omega, ha⟩)
        · exact List.mem_append_left _ ((mem_down (by omega)).mpr ⟨by show D < D - k' + (k' + 1); omega, by show D - k' ≤ D; omega, by show 2 * t + 1 < 2 ^ (D - k'); omega, ha⟩)
      refine least_ok hw hne (g4 _ _ ea3) e6 fun h5 m g5 m1 m2 => ?_
      refine store_ok hD hw hkD (E := down (tops ws) D k ++ tolds (tops ws) (D - k) t) (h := h) ?_ ?_ (g5 _ _ (g4 _ _ ea3)) hnt (g3.trans (g4.trans g5)) hle (g5 _ _ (g4 _ _ et3)) (g5 _ _ e6) (by omega) ?_ fun h6 y7 g6 ea6 et6 => ?_
      · rw [List.length_append]; omega
      · intro a z
        rcases List.mem_append.mp z with z | z
        · have := ((mem_down (by omega)).mp z).1
          simp at this; omega
        · have := (mem_tolds.mp z).2.1
          simp at this
      · rintro k' rfl
        exact ⟨m1, m2⟩
      · refine ⟨_, _, _, _, rfl, g6, ea6, ?_⟩
        have e : tolds (tops ws) (D - k) (t + 1) = tolds (tops ws) (D - k) t ++ (tops ws).map fun a => ((D - k, t, a) : Ek) := by
          unfold tolds
          rw [List.range_succ, List.flatMap_append]
          simp
        rw [e, ← List.append_assoc]
        exact et6
    · rintro s h3 ⟨y5, y6, y7, y8, rfl, g3, ea3, et3⟩
      refine ⟨_, _, _, _, _, rfl, g3, ea3, ?_⟩
      have e : down (tops ws) D (k + 1) = down (tops ws) D k ++ tolds (tops ws) (D - k) (2 ^ (D - k)) := by
        unfold down
        rw [List.range_succ, List.flatMap_append]
        simp [lvl]
      rw [e]
      exact et3
  · rintro s h2 ⟨y4, y5, y6, y7, y8, rfl, g2, ea2, et2⟩
    exact ⟨_, rfl, q h2 _ g2 hle et2⟩
end K60

namespace K60
open PySem PySem.Spec L2 Tr

/-! ### the rows of least_prefixes, as a tree of choices -/
inductive Tree (ws : List Int) (D : Nat) : Nat → Nat → Option Int → List Row → Prop
  | fine {t : Nat} {a : Option Int} (h : cst ws 0 t a = 0) : Tree ws D 0 t a []
  | leaf {t : Nat} {a : Option Int} {x : Int} (h : cst ws 0 t a = 1) (hx : ws[t]? = some x) : Tree ws D 0 t a [(D, t, x)]
  | keep {k t : Nat} {a : Option Int} {R1 R2 : List Row} (h : both ws k t a ≤ cst ws (k + 1) t a) (h1 : Tree ws D k (2 * t + 1) a R1) (h2 : Tree ws D k (2 * t) a R2) : Tree ws D (k + 1) t a (R1 ++ R2)
  | row {k t : Nat} {a : Option Int} {x : Int} {R1 R2 : List Row} (h : cst ws (k + 1) t a < both ws k t a) (hx : x ∈ ws) (hm : ∀ y ∈ ws, both ws k t (some x) ≤ both ws k t (some y))
      (h1 : Tree ws D k (2 * t + 1) (some x) R1) (h2 : Tree ws D k (2 * t) (some x) R2) : Tree ws D (k + 1) t a ((D - (k + 1), t, x) :: (R1 ++ R2))
/-- the rows so far, whatever the waiting nodes give -/
def Promise (ws : List Int) (D : Nat) (R : List Row) (W : List Ek) : Prop :=
  ∀ Rs : List (List Row), Paired (fun (e : Ek) r => Tree ws D (D - e.1) e.2.1 e.2.2 r) W.reverse Rs → Tree ws D D 0 none (R ++ Rs.flatten)
def wt (D : Nat) (e : Ek) : Nat := 2 ^ (D - e.1 + 1) - 1
def wts (D : Nat) (W : List Ek) : Nat := (W.map (wt D)).sum
theorem wt_pos (D : Nat) (e : Ek) : 1 ≤ wt D e := by
  unfold wt
  have : 2 ≤ 2 ^ (D - e.1 + 1) := by rw [Nat.pow_succ]; have := Nat.two_pow_pos (D - e.1); omega
  omega
theorem wts_len (D : Nat) : ∀ W : List Ek, W.length ≤ wts D W
  | [] => Nat.le_refl _
  | e :: W => by
    have ih := wts_len D W
    have := wt_pos D e
    unfold wts at *
    rw [List.map_cons, List.sum_cons, List.length_cons]; omega
theorem wts_snoc (D : Nat) (W : List Ek) (e : Ek) : wts D (W ++ [e]) = wts D W + wt D e := by unfold wts; simp
theorem wt_half {D k : Nat} {e e1 e2 : Ek} (h : D - e.1 = k + 1) (h1 : D - e1.1 = k) (h2 : D - e2.1 = k) : wt D e1 + wt D e2 + 1 = wt D e := by
  unfold wt
  rw [h, h1, h2]
  have : 0 < 2 ^ (k + 1) := Nat.two_pow_pos _
  rw [show 2 ^ (k + 1 + 1) = 2 * 2 ^ (k + 1) by rw [Nat.pow_succ]; omega]
  omega
theorem promise_end {ws : List Int} {D : Nat} {R : List Row} (h : Promise ws D R []) : Tree ws D D 0 none R := by
  have := h [] .nil
  simpa using this
theorem promise_leaf {ws : List Int} {D : Nat} {R r : List Row} {W : List Ek} {e : Ek} (h : Promise ws D R (W ++ [e])) (t : Tree ws D (D - e.1) e.2.1 e.2.2 r) : Promise ws D (R ++ r) W := fun Rs hp => by
  have := h (r :: Rs) (by rw [List.reverse_append]; exact .cons t hp)
  rw [List.flatten_cons] at this
  rw [List.append_assoc]; exact this
theorem promise_node {ws : List Int} {D : Nat} {R r : List Row} {W : List Ek} {e e1 e2 : Ek} (h : Promise ws D R (W ++ [e])) (t : ∀ R1 R2, Tree ws D (D - e2.1) e2.2.1 e2.2.2 R1 → Tree ws D (D - e1.1) e1.2.1 e1.2.2 R2 → Tree ws D (D - e.1) e.2.1 e.2.2 (r ++ (R1 ++ R2))) : Promise ws D (R ++ r) (W ++ [e1, e2]) := fun Rs hp => by
  rw [show (W ++ [e1, e2]).reverse = e2 :: e1 :: W.reverse by simp] at hp
  cases hp with
  | @cons _ R1 _ Rs1 h1 hp =>
    cases hp with
    | @cons _ R2 _ Rs2 h2 hp =>
      have := h ((r ++ (R1 ++ R2)) :: Rs2) (by rw [List.reverse_append]; exact .cons (t R1 R2 h1 h2) hp)
      rw [List.flatten_cons] at this
      rw [List.flatten_cons, List.flatten_cons]
      simpa [List.append_assoc] using this
theorem promise_start {ws : List Int} {D : Nat} : Promise ws D [] [(0, 0, none)] := fun Rs hp => by
  cases hp with
  | @cons _ r _ Rs1 h1 hp =>
    cases hp
    simpa using h1
theorem first_at (m : Int) : ∀ {ns : List Int}, m ∈ ns → ∃ j : Nat, ns[j]? = some m ∧ ∀ (i : Nat) (y : Int), i < j → ns[i]? = some y → y ≠ m
  | a :: ns, h => by
    by_cases e : a = m
    · exact ⟨0, by rw [← e]; rfl, fun i _ hi => by omega⟩
    · have hm : m ∈ ns := by
        rcases List.mem_cons.mp h with z | z
        · exact absurd z.symm e
        · exact z
      obtain ⟨j, h1, h2⟩ := first_at m hm
      refine ⟨j + 1, h1, fun i y hi hy => ?_⟩
      cases i with
      | zero => cases hy; exact e
      | succ i => exact h2 i y (by omega) hy
theorem perm_map_ex {α β : Type} {f : α → β} {l m : List β} (p : l.Perm m) : ∀ {xs : List α}, m = xs.map f → ∃ ys : List α, ys.Perm xs ∧ l = ys.map f := by
  induction p with
  | nil => intro xs e; cases xs with
    | nil => exact ⟨[], .refl _, rfl⟩
    | cons _ _ => cases e
  | cons x _ ih => intro xs e; cases xs with
    | nil => cases e
    | cons a xs =>
      rw [List.map_cons] at e
      injection e with e1 e2
      obtain ⟨ys, h1, h2⟩ := ih e2
      exact ⟨a :: ys, h1.cons a, by rw [List.map_cons, ← e1, h2]⟩
  | swap x y l => intro xs e; cases xs with
    | nil => cases e
    | cons a xs => cases xs with
      | nil => cases e
      | cons b xs =>
        rw [List.map_cons, List.map_cons] at e
        injection e with e1 e2
        injection e2 with e2 e3
        exact ⟨b :: a :: xs, .swap _ _ _, by rw [List.map_cons, List.map_cons, ← e1, ← e2, ← e3]⟩
  | trans _ _ ih1 ih2 => intro xs e; obtain ⟨ys, h1, h2⟩ := ih2 e; obtain ⟨zs, h3, h4⟩ := ih1 h2; exact ⟨zs, h3.trans h1, h4⟩
/-! ### sorted rows -/
abbrev leT : T → T → Bool := W.dataLe false dT
theorem rows_pure : ∀ R : List Row, pureTs (R.map rT) = true
  | [] => rfl
  | r :: R => by rw [List.map_cons]; show (pureT (rT r) && pureTs (R.map rT)) = true; rw [rows_pure R]; rfl
theorem rows_alike (R : List Row) : W.AllAlike ((R.map rT).map dT) := by
  rw [List.map_map]
  exact W.AllAlike.of fun a b => by
    show W.alike (.tuple [.int _, .int _, .int _]) (.tuple [.int _, .int _, .int _]) = true
    simp [W.alike, W.alikeAll]
theorem rows_sortable (R : List Row) : W.Sortable ((R.map rT).map dT) := by
  rw [List.map_map]
  exact W.Sortable.tuples fun b => ⟨_, _, rfl⟩
theorem rows_depth (R : List Row) : ∀ t ∈ R.map rT, (dT t).depth ≤ 8 := by
  intro t ht
  obtain ⟨r, _, rfl⟩ := List.mem_map.mp ht
  show (PyData.tuple [.int _, .int _, .int _]).depth ≤ 8
  simp [PyData.depth, PyData.depthAll]
theorem sorted_ok {R : List Row} (hz : R.length ≤ 1000) {x : T} {h : Hh} {Q : VKT} (hx : seqT h x = some (R.map rT)) (q : Q (.ref h.length) (h ++ [.lst ((R.map rT).mergeSort leT)])) : gSorted [x] h Q :=
  ⟨x, R.map rT, rfl, hx, rows_pure R, rows_alike R, rows_sortable R, rows_depth R, by rw [List.length_map]; exact small' hz, q⟩
theorem leT_total : W.TotalLe leT := W.sortLe_total _ _ _
theorem sort_twice (xs : List T) : (xs.mergeSort leT).mergeSort leT = xs.mergeSort leT := by
  refine List.mergeSort_of_pairwise (List.pairwise_mergeSort ?_ ?_ xs)
  · exact leT_total.trans
  · exact fun a b => by rw [Bool.or_eq_true]; exact leT_total.total a b
end K60

namespace K60
open PySem PySem.Spec L2 Tr

theorem extend_ok {n m : Nat} {xs ys : List T} {h : Hh} {Q : VKT} (e : h[n]? = some (.lst xs)) (e2 : h[m]? = some (.lst ys)) (hz : xs.length + ys.length ≤ sizeLine) (q : Q .non (h.set n (.lst (xs ++ ys)))) : gExtend (.ref n) [.ref m] h Q := ⟨n, m, xs, ys, rfl, rfl, e, e2, hz, q⟩
theorem pop_ok {n : Nat} {xs : List T} {y : T} {h : Hh} {Q : VKT} (e : h[n]? = some (.lst (xs ++ [y]))) (q : Q y (h.set n (.lst xs))) : gPop (.ref n) [] h Q :=
  ⟨n, xs ++ [y], y, rfl, rfl, e, by simp, by rw [List.dropLast_concat]; exact q⟩
theorem index_ok {n j : Nat} {ns : List Int} {m : Int} {h : Hh} {Q : VKT} (e : h[n]? = some (.lst (Li ns))) (h1 : ns[j]? = some m) (h2 : ∀ (i : Nat) (y : Int), i < j → ns[i]? = some y → y ≠ m) (q : Q (.int (j : Nat)) h) : gIndex (.ref n) [.int m] h Q :=
  ⟨Li ns, .int m, j, .int m, seqT_ref e, ⟨n, Li ns, rfl, seqT_ref e⟩, rfl, rfl, flats ns, li_at h1, by show (m == m) = true; simp, fun i z hi hz => by
    obtain ⟨y, rfl, hy, _⟩ := li_get hz
    show (y == m) = false
    simpa using h2 i y hi hy, q⟩
def allE (ws : List Int) (D : Nat) : List Ek := down (tops ws) D (D + 1)
theorem mem_all {ws : List Int} {D : Nat} {l t : Nat} {a : Option Int} (h1 : l ≤ D) (h2 : t < 2 ^ l) (h3 : a ∈ tops ws) : ((l, t, a) : Ek) ∈ allE ws D := (mem_down (Nat.le_refl _)).mpr ⟨by show D < l + (D + 1); omega, h1, h2, h3⟩
/-- the state of the loop -/
structure Lp (ws : List Int) (D : Nat) (h0 : Hh) (nr nw : Nat) (m : Nat) (R : List Row) (W : List Ek) (h' : Hh) : Prop where
  gr : Gr h0 h'
  rows : h'[nr]? = some (.lst (R.map rT))
  wait : h'[nw]? = some (.lst (W.map keyT))
  meas : m = wts D W
  sz : R.length + wts D W ≤ 15
  pr : Promise ws D R W
  ok : ∀ w ∈ W, w.1 ≤ D ∧ w.2.1 < 2 ^ w.1 ∧ w.2.2 ∈ tops ws
theorem cst0 (ws : List Int) (t : Nat) (a : Option Int) : (cst ws 0 t a = 0 ∧ (ws.length ≤ t ∨ ws[t]? = a)) ∨ (cst ws 0 t a = 1 ∧ t < ws.length ∧ ws[t]? ≠ a) := by
  unfold cst
  by_cases h : ws.length ≤ t ∨ ws[t]? = a
  · rw [if_pos h]; exact .inl ⟨rfl, h⟩
  · rw [if_neg h]; exact .inr ⟨rfl, by omega, fun z => h (.inr z)⟩
abbrev SS (ws : List Int) (D nc nn nr nw : Nat) (y6 y7 y8 y9 y10 y11 : Option T) : Sl := [some (.tup (Li ws)), some (.int (D : Nat)), some (.ref nc), some (.ref nn), some (.ref nr), some (.ref nw), y6, y7, y8, y9, y10, y11]
abbrev JJ (ws : List Int) (D nc nn : Nat) (h2 : Hh) (m : Nat) (s : Sl) (h' : Hh) : Prop := ∃ R W, ∃ y6 y7 y8 y9 y10 y11 : Option T, s = SS ws D nc nn h2.length (h2.length + 1) y6 y7 y8 y9 y10 y11 ∧ Lp ws D h2 h2.length (h2.length + 1) m R W h'
theorem set_other {h : Hh} {n m : Nat} {o o' : O} (hn : m ≠ n) (e : h[n]? = some o) : (h.set m o')[n]? = some o := by rw [List.getElem?_set_ne hn]; exact e
theorem leaf_step {ws : List Int} {D nc nn : Nat} {h2 h' h4 : Hh} {m t : Nat} {a : Option Int} {R r : List Row} {W0 : List Ek} {y6 y7 y8 y9 y10 y11 : Option T} (L : Lp ws D h2 h2.length (h2.length + 1) m R (W0 ++ [(D, t, a)]) h') (g4 : Gr h2 h4) (er : h4[h2.length]? = some (.lst ((R ++ r).map rT))) (ew : h4[h2.length + 1]? = some (.lst (W0.map keyT)))
    (hr : r.length ≤ 1) (tr : Tree ws D 0 t a r) : ∃ m', m' < m ∧ JJ ws D nc nn h2 m' (SS ws D nc nn h2.length (h2.length + 1) y6 y7 y8 y9 y10 y11) h4 := by
  have e1 := wts_snoc D W0 (D, t, a)
  have e2 := wt_pos D (D, t, a)
  have e3 := L.sz
  have e4 := L.meas
  refine ⟨wts D W0, by omega, R ++ r, W0, _, _, _, _, _, _, rfl, g4, er, ew, rfl, by rw [List.length_append]; omega, promise_leaf L.pr ?_, fun w hw => L.ok w (List.mem_append_left _ hw)⟩
  show Tree ws D (D - D) t a r
  rw [Nat.sub_self]; exact tr
theorem node_step {ws : List Int} {D nc nn : Nat} {h2 h' h4 : Hh} {m l k t : Nat} {a a' : Option Int} {R r : List Row} {W0 : List Ek} {y9 y10 y11 : Option T} {De : EndsT} (L : Lp ws D h2 h2.length (h2.length + 1) m R (W0 ++ [(l, t, a)]) h') (hk : D - l = k + 1) (g4 : Gr h2 h4) (er : h4[h2.length]? = some (.lst ((R ++ r).map rT))) (ew : h4[h2.length + 1]? = some (.lst (W0.map keyT)))
    (hr : r.length ≤ 1) (ha : a' ∈ tops ws) (tr : ∀ R1 R2, Tree ws D k (2 * t + 1) a' R1 → Tree ws D k (2 * t) a' R2 → Tree ws D (k + 1) t a (r ++ (R1 ++ R2))) (hD : ∀ s h, (∃ m', m' < m ∧ JJ ws D nc nn h2 m' s h) → De.nx s h) :
    wDrop (wMt gExtend (wV 5) (wCons (wLst (wCons (wTup (wCons (wBin gAdd (wV 6) (wC (.int 1))) (wCons (wBin gMul (wC (.int 2)) (wV 7)) (wCons (wV 8) wNil)))) (wCons (wTup (wCons (wBin gAdd (wV 6) (wC (.int 1))) (wCons (wBin gAdd (wBin gMul (wC (.int 2)) (wV 7)) (wC (.int 1))) (wCons (wV 8) wNil)))) wNil))) wNil)) De
      (SS ws D nc nn h2.length (h2.length + 1) (some (.int (l : Nat))) (some (.int (t : Nat))) (some (toT a')) y9 y10 y11) h4 := by
  have c0 : ((l : Nat) : Int) + 1 = ((l + 1 : Nat) : Int) := by omega
  have c1 : ((2 : Int) * (t : Nat)) = ((2 * t : Nat) : Int) := by omega
  have c2 : ((2 * t : Nat) : Int) + 1 = ((2 * t + 1 : Nat) : Int) := by omega
  have e1 := wts_snoc D W0 (l, t, a)
  have e2 := wt_half (D := D) (k := k) (e := (l, t, a)) (e1 := (l + 1, 2 * t, a')) (e2 := (l + 1, 2 * t + 1, a')) hk (by show D - (l + 1) = k; omega) (by show D - (l + 1) = k; omega)
  have e3 := L.sz
  have e4 := L.meas
  have e5 := wts_len D W0
  obtain ⟨o1, o2, o3⟩ := L.ok (l, t, a) (List.mem_append_right _ List.mem_cons_self)
  have hlt1 : h2.length + 1 < h4.length := (List.getElem?_eq_some_iff.mp ew).1
  refine ⟨_, rfl, isLst_ok ew, _, rfl, add_i ⟨_, rfl, mul_i (two_mul_ok _) ⟨_, rfl, nil_ok ⟨small' (by simp), _, rfl, add_i ⟨_, rfl, mul_i (two_mul_ok _) (add_i ⟨_, rfl, nil_ok ⟨small' (by simp), small' (by simp), nil_ok ?_⟩⟩)⟩⟩⟩⟩⟩
  rw [c1, c2, c0]
  refine extend_ok ((gr_new _ _) _ _ ew) (get_new _ _) (small' (by simp; omega)) (hD _ _ ⟨wts D (W0 ++ [(l + 1, 2 * t, a'), (l + 1, 2 * t + 1, a')]), ?_, R ++ r, W0 ++ [(l + 1, 2 * t, a'), (l + 1, 2 * t + 1, a')], _, _, _, _, _, _, rfl, ?_, ?_, ?_, rfl, ?_, ?_, ?_⟩)
  · have : wts D (W0 ++ [(l + 1, 2 * t, a'), (l + 1, 2 * t + 1, a')]) = wts D W0 + (wt D (l + 1, 2 * t, a') + wt D (l + 1, 2 * t + 1, a')) := by unfold wts; simp
    omega
  · exact (g4.trans (gr_new _ _)).set (by omega)
  · exact set_other (by omega) ((gr_new _ _) _ _ er)
  · rw [set_same ((gr_new _ _) _ _ ew), List.map_append]; rfl
  · have : wts D (W0 ++ [(l + 1, 2 * t, a'), (l + 1, 2 * t + 1, a')]) = wts D W0 + (wt D (l + 1, 2 * t, a') + wt D (l + 1, 2 * t + 1, a')) := by unfold wts; simp
    rw [List.length_append]; omega
  · refine promise_node L.pr fun R1 R2 h1 h2 => ?_
    have hk1 : D - (l + 1) = k := by omega
    change Tree ws D (D - (l + 1)) (2 * t + 1) a' R1 at h1
    change Tree ws D (D - (l + 1)) (2 * t) a' R2 at h2
    show Tree ws D (D - l) t a _
    rw [hk1] at h1 h2
    rw [hk]
    exact tr R1 R2 h1 h2
  · intro w hw
    rcases List.mem_append.mp hw with z | z
    · exact L.ok w (List.mem_append_left _ z)
    · have hp : 2 ^ (l + 1) = 2 * 2 ^ l := by rw [Nat.pow_succ]; omega
      change t < 2 ^ l at o2
      rcases List.mem_cons.mp z with z | z
      · subst z; exact ⟨by show l + 1 ≤ D; omega, by show 2 * t < 2 ^ (l + 1); omega, ha⟩
      · have : w = (l + 1, 2 * t + 1, a') := by simpa using z
        subst this; exact ⟨by show l + 1 ≤ D; omega, by show 2 * t + 1 < 2 ^ (l + 1); omega, ha⟩
theorem k_least {ws : List Int} (hw : ws.length ≤ 8) (hne : ws ≠ []) {D : Nat} (eD : D = bitsN ws.length) {h : Hh} {Q : VKT}
    (q : ∀ (h' : Hh) (nc : Nat) (R SR : List Row), Gr h h' → h.length ≤ nc → h'[nc]? = some (.dict (DB (CC ws D) (allE ws D))) → Tree ws D D 0 none R → SR.Perm R → R.length ≤ 15 → (SR.map rT).mergeSort leT = SR.map rT → Q (.tup [.tup (SR.map rT), .ref nc]) h') : g_least_prefixes [.tup (Li ws)] h Q := by
  have hl : (Li ws).length = ws.length := List.length_map ..
  have hD : D ≤ 3 := by rw [eD]; exact bits_le3 _
  have hal : (ansL ws).length ≤ 8 := by have := ans_len ws []; simp at this; unfold ansL; omega
  have ha0 : 0 < (ansL ws).length := by
    cases ws with
    | nil => exact absurd rfl hne
    | cons x r => exact List.length_pos_of_mem (mem_ans.mpr List.mem_cons_self)
  refine ⟨rfl, _, rfl, nil_ok (len_s rfl (nil_ok (k_bits (by omega) ?_)))⟩
  rw [hl, ← eD]
  refine ⟨_, rfl, nil_ok (k_cost hw hne eD fun h1 nc g1 hnc ec => ?_)⟩
  refine ⟨_, rfl, nil_ok (k_answers (by omega) ?_)⟩
  have g2 := gr_new h1 (O.lst (Li (ansL ws)))
  have ea := get_new h1 (O.lst (Li (ansL ws)))
  have ec2 := g2 _ _ ec
  have g02 := g1.trans g2
  generalize h1 ++ [O.lst (Li (ansL ws))] = h2 at *
  generalize h1.length = nn at *
  refine ⟨Nat.zero_le _, ?_⟩
  have mono : ∀ {h' : Hh}, Gr h2 h' → h'[nc]? = some (.dict (DB (CC ws D) (allE ws D))) ∧ h'[nn]? = some (.lst (Li (ansL ws))) := fun g => ⟨g _ _ ec2, g _ _ ea⟩
  refine ⟨small' (by simp), small' (by simp), ?_⟩
  have hd : D - 0 = D := rfl
  refine ⟨fun m s h' => ∃ R W, ∃ y6 y7 y8 y9 y10 y11 : Option T, s = [some (.tup (Li ws)), some (.int (D : Nat)), some (.ref nc), some (.ref nn), some (.ref h2.length), some (.ref (h2.length + 1)), y6, y7, y8, y9, y10, y11] ∧ Lp ws D h2 h2.length (h2.length + 1) m R W h', wts D [(0, 0, none)], ⟨[], [(0, 0, none)], none, none, none, none, none, none, ?_, ?_⟩, ?_⟩
  · simp
  · refine ⟨(gr_new _ _).trans (gr_new _ _), (gr_new _ _) _ _ (get_new _ _), get_eq (by simp), rfl, ?_, promise_start, fun w hw => ?_⟩
    · have : ∀ D, D ≤ 3 → wts D [(0, 0, none)] ≤ 15 := by decide
      simpa using this D hD
    · have : w = (0, 0, none) := by simpa using hw
      subst this
      exact ⟨Nat.zero_le _, by simp, List.mem_cons_self⟩
  · rintro m s h' ⟨R, W, y6, y7, y8, y9, y10, y11, rfl, L⟩
    obtain ⟨ec', ea'⟩ := mono L.gr
    refine ⟨_, rfl, !W.isEmpty, ?_, ?_⟩
    · show truO h'[h2.length + 1]? = _
      rw [L.wait]
      show some (!(W.map keyT).isEmpty) = _
      rw [List.isEmpty_map]
    rcases List.eq_nil_or_concat W with rfl | ⟨W0, e, hWe⟩
    · refine ite_ff ?_
      -- return
      have hz : R.length ≤ 15 := by have := L.sz; omega
      refine ⟨_, rfl, nil_ok (sorted_ok (by omega) (seqT_ref L.rows) (nil_ok ⟨_, _, rfl, seqT_ref (get_new _ _), _, rfl, nil_ok ⟨small' (by simp), ?_⟩⟩))⟩
      obtain ⟨SR, hp, he⟩ := perm_map_ex (List.mergeSort_perm (R.map rT) leT) rfl
      rw [he]
      refine q _ nc R SR (g02.trans (L.gr.trans (gr_new _ _))) hnc ((gr_new _ _) _ _ ec') (promise_end L.pr) hp hz ?_
      rw [← he, sort_twice]
    · rw [List.concat_eq_append] at hWe
      subst hWe
      rw [show (!(W0 ++ [e]).isEmpty) = true by simp]
      refine ite_tt ?_
      obtain ⟨l, t, a⟩ := e
      obtain ⟨o1, o2, o3⟩ := L.ok (l, t, a) (List.mem_append_right _ List.mem_cons_self)
      change l ≤ D at o1
      change t < 2 ^ l at o2
      change a ∈ tops ws at o3
      have wait' : h'[h2.length + 1]? = some (.lst (W0.map keyT ++ [keyT (l, t, a)])) := by rw [L.wait, List.map_append]; rfl
      refine ⟨_, rfl, isLst_ok wait', nil_ok (pop_ok wait' (gTp3 ?_))⟩
      have g3 : Gr h2 (h'.set (h2.length + 1) (.lst (W0.map keyT))) := L.gr.set (by omega)
      have er3 : (h'.set (h2.length + 1) (.lst (W0.map keyT)))[h2.length]? = some (.lst (R.map rT)) := set_other (by omega) L.rows
      have ew3 : (h'.set (h2.length + 1) (.lst (W0.map keyT)))[h2.length + 1]? = some (.lst (W0.map keyT)) := set_same wait'
      generalize h'.set (h2.length + 1) (.lst (W0.map keyT)) = h3 at *
      obtain ⟨ec3, ea3⟩ := mono g3
      have hRz : R.length ≤ 15 := by have := L.sz; omega
      refine ⟨_, rfl, _, rfl, eq_i (neg := false) ⟨_, rfl, ite_dec (fun hy => ?_) fun hn => ?_⟩⟩
      · -- a leaf
        have : l = D := by exact_mod_cast hy
        subst this
        have fine : cst ws 0 t a = 0 → ∃ m', m' < m ∧ JJ ws l nc nn h2 m' (SS ws l nc nn h2.length (h2.length + 1) (some (.int (l : Nat))) (some (.int (t : Nat))) (some (toT a)) y9 y10 y11) h3 :=
          fun hz => leaf_step (r := []) L g3 (by rw [List.append_nil]; exact er3) ew3 (Nat.zero_le _) (.fine hz)
        refine ⟨_, rfl, _, rfl, nil_ok (len_s rfl (lt_i ⟨_, rfl, ite_dec (fun hlt => ?_) fun hge => ite_ff ?_⟩))⟩
        · have ht : t < ws.length := by simp at hlt; omega
          have hx := List.getElem?_eq_getElem ht
          refine ⟨_, rfl, _, rfl, ix_s (i := t) rfl (li_at hx) ⟨_, rfl, eq_a (neg := true) (a := some ws[t]) (b := a) ⟨_, rfl, ite_decN (fun hn => ?_) fun hy => ?_⟩⟩⟩
          · have hc : cst ws 0 t a = 1 := by
              rcases cst0 ws t a with ⟨_, z | z⟩ | ⟨z, _⟩
              · omega
              · exact absurd (hx.symm.trans z) hn
              · exact z
            refine ⟨_, rfl, isLst_ok er3, _, rfl, _, rfl, _, rfl, _, rfl, ix_s (i := t) rfl (li_at hx) (nil_ok ⟨small' (by simp), nil_ok (append_ok er3 (small (by rw [List.length_map]; omega)) ?_)⟩)⟩
            exact leaf_step (r := [(l, t, ws[t])]) L (g3.set (Nat.le_refl _)) (by rw [set_same er3, List.map_append]; rfl) (set_other (by omega) ew3) (Nat.le_refl _) (.leaf hc hx)
          · refine fine ?_
            rcases cst0 ws t a with ⟨z, _⟩ | ⟨_, _, z⟩
            · exact z
            · exact absurd (hx.trans hy) z
        · refine fine ?_
          rcases cst0 ws t a with ⟨z, _⟩ | ⟨_, z, _⟩
          · exact z
          · simp at hge; omega
      · -- a node
        obtain ⟨k, hk⟩ : ∃ k, D - l = k + 1 := ⟨D - l - 1, by omega⟩
        have hk1 : D - (l + 1) = k := by omega
        have c0 : ((l : Nat) : Int) + 1 = ((l + 1 : Nat) : Int) := by omega
        have c1 : ((2 : Int) * (t : Nat)) = ((2 * t : Nat) : Int) := by omega
        have c2 : ((2 * t : Nat) : Int) + 1 = ((2 * t + 1 : Nat) : Int) := by omega
        have hp : 2 ^ (l + 1) = 2 * 2 ^ l := by rw [Nat.pow_succ]; omega
        have kid0 : ∀ b ∈ tops ws, ((l + 1, 2 * t, b) : Ek) ∈ allE ws D := fun b hb => mem_all (by omega) (by omega) hb
        have kid1 : ∀ b ∈ tops ws, ((l + 1, 2 * t + 1, b) : Ek) ∈ allE ws D := fun b hb => mem_all (by omega) (by omega) hb
        have eb : ∀ b, ((CC ws D (l + 1, 2 * t, b) : Nat) : Int) + ((CC ws D (l + 1, 2 * t + 1, b) : Nat) : Int) = ((both ws k t b : Nat) : Int) := fun b => by
          show ((cst ws (D - (l + 1)) (2 * t) b : Nat) : Int) + ((cst ws (D - (l + 1)) (2 * t + 1) b : Nat) : Int) = ((cst ws k (2 * t) b + cst ws k (2 * t + 1) b : Nat) : Int)
          rw [hk1]; omega
        have eC : CC ws D (l, t, a) = cst ws (k + 1) t a := by unfold CC; rw [hk]
        refine ⟨_, rfl, _, rfl, add_i ⟨_, rfl, mul_i (two_mul_ok _) ⟨_, rfl, nil_ok ⟨small' (by simp), ?_⟩⟩⟩⟩
        rw [c1, c0]
        refine ix_DB (e := (l + 1, 2 * t, a)) (.inl ec3) (kid0 a o3) ⟨_, rfl, _, rfl, add_i ⟨_, rfl, mul_i (two_mul_ok _) (add_i ⟨_, rfl, nil_ok ⟨small' (by simp), ?_⟩⟩)⟩⟩
        rw [c1, c2, c0]
        refine ix_DB (e := (l + 1, 2 * t + 1, a)) (.inl ec3) (kid1 a o3) (add_i ?_)
        rw [eb]
        refine ⟨_, rfl, _, rfl, _, rfl, _, rfl, _, rfl, nil_ok ⟨small' (by simp), ix_DB (e := (l, t, a)) (.inl ec3) (mem_all o1 o2 o3) ?_⟩⟩
        rw [eC]
        refine gt_i ⟨_, rfl, ite_dec (fun hgt => ?_) fun hle => ?_⟩
        · have hgt' : cst ws (k + 1) t a < both ws k t a := by exact_mod_cast hgt
          -- sums
          refine ⟨_, rfl, Li (ansL ws), seqT_ref ea3, fun i acc h4 => h4 = h3 ∧ acc = ((ansL ws).take i).map (fun x => T.int (both ws k t (some x) : Nat)), ⟨rfl, rfl⟩, fun i acc h4 _ ⟨e, _⟩ => by rw [e]; exact seqT_ref ea3, ?_, ?_⟩
          · rintro i y acc h4 hi ⟨rfl, rfl⟩
            obtain ⟨x, rfl, hx, hlt⟩ := li_get hi
            have hxt : some x ∈ tops ws := List.mem_cons_of_mem _ (List.mem_map.mpr ⟨x, List.mem_of_getElem? hx, rfl⟩)
            refine step_nm ⟨_, rfl, _, rfl, add_i ⟨_, rfl, mul_i (two_mul_ok _) ⟨_, rfl, nil_ok ⟨small' (by simp), ?_⟩⟩⟩⟩
            rw [c1, c0]
            refine ix_DB (e := (l + 1, 2 * t, some x)) (.inl ec3) (kid0 _ hxt) ⟨_, rfl, _, rfl, add_i ⟨_, rfl, mul_i (two_mul_ok _) (add_i ⟨_, rfl, nil_ok ⟨small' (by simp), ?_⟩⟩)⟩⟩
            rw [c1, c2, c0]
            refine ix_DB (e := (l + 1, 2 * t + 1, some x)) (.inl ec3) (kid1 _ hxt) (add_i ?_)
            rw [eb]
            refine ⟨small (by simp; omega), rfl, ?_⟩
            rw [← take_snoc hx, List.map_append]; rfl
          · rintro acc h4 ⟨rfl, rfl⟩
            rw [List.length_map, List.take_length]
            have e : (ansL ws).map (fun x => T.int (both ws k t (some x) : Nat)) = Li ((ansL ws).map fun x => ((both ws k t (some x) : Nat) : Int)) := by
              show _ = ((ansL ws).map _).map T.int
              rw [List.map_map]; rfl
            rw [e]
            have g5 := gr_new h4 (O.lst (Li ((ansL ws).map fun x => ((both ws k t (some x) : Nat) : Int))))
            have es := get_new h4 (O.lst (Li ((ansL ws).map fun x => ((both ws k t (some x) : Nat) : Int))))
            have er5 := g5 _ _ er3
            have ew5 := g5 _ _ ew3
            have ea5 := g5 _ _ ea3
            have g25 := g3.trans g5
            generalize h4 ++ [O.lst (Li ((ansL ws).map fun x => ((both ws k t (some x) : Nat) : Int)))] = h5 at *
            generalize h4.length = ns at *
            refine ⟨_, rfl, _, rfl, isLst_ok es, _, rfl, nil_ok (min_ok es (by rw [List.length_map]; exact ha0) fun mm m1 m2 => ?_)⟩
            obtain ⟨j, j1, j2⟩ := first_at mm m1
            obtain ⟨x, hxj, hxm⟩ : ∃ x, (ansL ws)[j]? = some x ∧ ((both ws k t (some x) : Nat) : Int) = mm := by
              rw [List.getElem?_map] at j1
              cases ej : (ansL ws)[j]? with
              | none => rw [ej] at j1; cases j1
              | some x => rw [ej] at j1; cases j1; exact ⟨x, rfl, rfl⟩
            have hxa := List.mem_of_getElem? hxj
            have hxt : some x ∈ tops ws := List.mem_cons_of_mem _ (List.mem_map.mpr ⟨x, hxa, rfl⟩)
            refine nil_ok (index_ok es j1 j2 (ix_s (i := j) (seqT_ref ea5) (li_at hxj) ?_))
            refine ⟨_, rfl, isLst_ok er5, _, rfl, _, rfl, _, rfl, nil_ok ⟨small' (by simp), nil_ok (append_ok er5 (small (by rw [List.length_map]; omega)) ?_)⟩⟩
            refine node_step (r := [(l, t, x)]) (a' := some x) L hk (g25.set (Nat.le_refl _)) (by rw [set_same er5, List.map_append]; rfl) (set_other (by omega) ew5) (Nat.le_refl _) hxt (fun R1 R2 h1 h2 => ?_) fun _ _ z => z
            have el : l = D - (k + 1) := by omega
            have := Tree.row (D := D) (R1 := R1) (R2 := R2) hgt' (mem_ans.mp hxa) (fun y hy => by
              have := m2 _ (List.mem_map.mpr ⟨y, mem_ans.mpr hy, rfl⟩)
              omega) h1 h2
            rw [← el] at this
            exact this
        · have hle' : both ws k t a ≤ cst ws (k + 1) t a := by
            rcases Nat.lt_or_ge (cst ws (k + 1) t a) (both ws k t a) with z | z
            · exact absurd (by exact_mod_cast z) hle
            · exact z
          exact node_step (r := []) (a' := a) L hk g3 (by rw [List.append_nil]; exact er3) ew3 (Nat.zero_le _) o3 (fun R1 R2 h1 h2 => (by rw [List.nil_append]; exact .keep hle' h1 h2)) fun _ _ z => z
end K60

namespace K60
open PySem PySem.Spec L2 Tr

/-! ### the pool: any whole number is drawn -/
theorem prod_ok {x y : Int} (hx : x.natAbs < 2 ^ 120) (hy : y.natAbs < 2 ^ 120) : IntMulOk x y := by
  have h1 := PyProof.Rows.intBits_le hx
  have h2 := PyProof.Rows.intBits_le hy
  have h3 : Builtin.Int.intTooBig (Builtin.Int.intBits x + Builtin.Int.intBits y) = false := by
    unfold Builtin.Int.intTooBig
    refine decide_eq_false ?_
    have : (240 : Int) ≤ bitsLine := by decide
    omega
  unfold IntMulOk
  rw [h3, Bool.and_false]
  exact Bool.false_ne_true
theorem sq_ok {x : Int} (h0 : 0 ≤ x) (h1 : x < 2 ^ 120) : IntMulOk x x := by
  have : x.natAbs < 2 ^ 120 := by omega
  exact prod_ok this this
theorem mod_rng (x : Int) {m : Int} (hm : 0 < m) : 0 ≤ x.fmod m ∧ x.fmod m < m := ⟨Int.fmod_nonneg_of_pos x hm, Int.fmod_lt_of_pos x hm⟩
theorem k_mixed {a b : Int} {h : Hh} {Q : VKT} (q : ∀ z : Int, Q (.int z) h) : g_l_mixed [.int a, .int b] h Q := by
  refine ⟨rfl, ?_⟩
  refine ⟨_, rfl, mul_i (IntMulOk.of_right (by decide)) ⟨_, rfl, mul_i (IntMulOk.of_right (by decide)) (add_i (add_i (nil_ok ⟨_, rfl, mod_i (by decide) ?_⟩)))⟩⟩
  obtain ⟨f0, f1⟩ := mod_rng (a * 48271 + b * 69621 + 11) (show (0 : Int) < 618970019642690137449562111 by decide)
  generalize (a * 48271 + b * 69621 + 11).fmod 618970019642690137449562111 = first at *
  refine ⟨_, rfl, _, rfl, mul_i (sq_ok f0 (Int.lt_trans f1 (by decide))) ⟨_, rfl, mul_i (IntMulOk.of_left (by decide)) (add_i ⟨_, rfl, add_i (nil_ok ⟨_, rfl, mod_i (by decide) ?_⟩)⟩)⟩⟩
  obtain ⟨s0, s1⟩ := mod_rng (first * first + 7 * first + b) (show (0 : Int) < 162259276829213363391578010288127 by decide)
  generalize (first * first + 7 * first + b).fmod 162259276829213363391578010288127 = second at *
  refine ⟨_, rfl, _, rfl, mul_i (sq_ok s0 (Int.lt_trans s1 (by decide))) ⟨_, rfl, add_i (nil_ok ⟨_, rfl, mod_i (by decide) ?_⟩)⟩⟩
  have hs : second < 2 ^ 120 := Int.lt_trans s1 (by decide)
  exact ⟨_, rfl, mul_i (prod_ok (by omega) (by decide)) ⟨_, rfl, add_i (q _)⟩⟩
theorem ix_z {x : T} {xs : List T} {i : Int} {v : T} {h : Hh} {Q : VKT} (e : seqT h x = some xs) (hi : atI xs i = some v) (q : Q v h) : gIxA x (.int i) h Q := .inl ⟨xs, i, v, e, rfl, hi, q⟩
theorem k_rest {x : T} {ns : List Int} (hn : ns.length ≤ 1000) {a b : Int} {h : Hh} {Q : VKT} (hx : seqT h x = some (Li ns)) (q : ∀ z : Int, Q (.int z) h) : g_l_rest [x, .int a, .int b] h Q := by
  have hl : (Li ns).length = ns.length := List.length_map ..
  refine ⟨rfl, ?_⟩
  have tail : ∀ number : Int, (wSeq (wIfS (wTst (wBin gLt (wV 3) (wC (.int 0)))) (wAsg (wBin gSub (wC (.int 1)) (wBin gMul (wC (.int 2)) (wV 3))) (gNm 3)) wNext)
    (wSeq (wIfS (wAnd (wTst (wBin (gEqD false) (wV 2) (wC (.int 0)))) (wAnd (wTst (wBin gLt (wV 1) (wCall gLen (wCons (wV 0) wNil)))) (wTst (wBin gGe (wV 3) (wBin gPow (wC (.int 10)) (wC (.int 18))))))) (wRet (wBin gSub (wV 3) (wBin gPow (wC (.int 10)) (wC (.int 18))))) wNext)
    (wRet (wCall g_l_mixed (wCons (wBin gAdd (wV 3) (wBin gMul (wV 2) (wC (.int 1000003)))) (wCons (wV 1) wNil)))))) { nx := fun _ h' => Q .non h', rt := Q } [some x, some (.int a), some (.int b), some (.int number)] h := by
    have fin : ∀ number : Int, (wSeq (wIfS (wAnd (wTst (wBin (gEqD false) (wV 2) (wC (.int 0)))) (wAnd (wTst (wBin gLt (wV 1) (wCall gLen (wCons (wV 0) wNil)))) (wTst (wBin gGe (wV 3) (wBin gPow (wC (.int 10)) (wC (.int 18))))))) (wRet (wBin gSub (wV 3) (wBin gPow (wC (.int 10)) (wC (.int 18))))) wNext)
        (wRet (wCall g_l_mixed (wCons (wBin gAdd (wV 3) (wBin gMul (wV 2) (wC (.int 1000003)))) (wCons (wV 1) wNil))))) { nx := fun _ h' => Q .non h', rt := Q } [some x, some (.int a), some (.int b), some (.int number)] h := by
      intro number
      have last : wRet (wCall g_l_mixed (wCons (wBin gAdd (wV 3) (wBin gMul (wV 2) (wC (.int 1000003)))) (wCons (wV 1) wNil))) { nx := fun _ h' => Q .non h', rt := Q } [some x, some (.int a), some (.int b), some (.int number)] h :=
        ⟨_, rfl, _, rfl, mul_i (IntMulOk.of_right (by decide)) (add_i ⟨_, rfl, nil_ok (k_mixed q)⟩)⟩
      have cp : CPow 10 18 := ⟨by decide, by decide, by decide⟩
      refine ⟨_, rfl, c_ok (eq_i (neg := false) ⟨_, rfl, ite_b (fun _ => ?_) fun _ => ite_ff last⟩)⟩
      refine ⟨_, rfl, _, rfl, nil_ok (len_s hx (lt_i ⟨_, rfl, ite_b (fun _ => ?_) fun _ => ite_ff last⟩))⟩
      refine ⟨_, rfl, bin_ok (c_ok (c_ok (pow_i cp (ge_i ⟨_, rfl, ite_b (fun _ => ?_) fun _ => last⟩))))⟩
      exact ⟨_, rfl, bin_ok (c_ok (c_ok (pow_i cp (sub_i (q _)))))⟩
    intro number
    refine ⟨_, rfl, lt_i ⟨_, rfl, ite_b (fun _ => ?_) fun _ => fin number⟩⟩
    exact ⟨_, rfl, mul_i (two_mul_ok _) (sub_i (fin _))⟩
  refine ⟨_, rfl, nil_ok (len_s hx (gt_i ⟨_, rfl, ite_dec (fun hy => ?_) fun _ => tail 0⟩))⟩
  have hpos : (0 : Int) < ((Li ns).length : Nat) := hy
  refine ⟨_, rfl, _, rfl, nil_ok ⟨_, rfl, _, rfl, nil_ok (len_s hx (mod_i (by omega) ?_))⟩⟩
  obtain ⟨m0, m1⟩ := mod_rng a hpos
  obtain ⟨n, hn'⟩ : ∃ n : Nat, a.fmod ((Li ns).length : Nat) = (n : Nat) := ⟨(a.fmod ((Li ns).length : Nat)).toNat, by omega⟩
  have hlt : n < ns.length := by omega
  rw [hn']
  exact ix_s (i := n) hx (li_at (List.getElem?_eq_getElem hlt)) (nil_ok ⟨_, rfl, tail _⟩)
theorem seq_set {h : Hh} {p : Nat} {o : O} {x : T} {xs : List T} (hp : x ≠ .ref p) (e : seqT h x = some xs) : seqT (h.set p o) x = some xs := by
  cases x with
  | tup l => exact e
  | ref n =>
    show seqO (h.set p o)[n]? = some xs
    rw [List.getElem?_set_ne (fun z => hp (by rw [z]))]; exact e
  | kls _ => exact e
  | _ => cases e
theorem setL_ok {h : Hh} {n k : Nat} {xs : List T} {v : T} {Q : Hh → Prop} (e : h[n]? = some (.lst xs)) (hk : k < xs.length) (q : Q (h.set n (.lst (xs.set k v)))) : gSetA (.ref n) (.int (k : Nat)) v h Q :=
  .inl ⟨n, xs, k, k, rfl, rfl, e, by
    unfold ixN
    rw [if_pos (by omega), if_pos (by omega)]; simp, q⟩
theorem p_ne {h : Hh} {p : Nat} {x : T} {xs : List T} (hs : seqT h x = some xs) {o : List T} (hp : h[p]? = some (.lst o)) (ne : xs ≠ o) : x ≠ .ref p := fun z => by
  subst z
  rw [seqT_ref hp] at hs
  exact ne (Option.some.inj hs).symm
/-- what a script is: a list -/
def isScr : T → Bool
  | .ref _ | .kls _ => true
  | _ => false
theorem li_ne {ns : List Int} {sc : T} (hs : isScr sc = true) {r : List T} : Li ns ≠ sc :: r := by
  intro z
  cases ns with
  | nil => cases z
  | cons a ns =>
    have z' : T.int a :: Li ns = sc :: r := z
    injection z' with z1 _
    rw [← z1] at hs
    cases hs
theorem pool_ne {h : Hh} {p : Nat} {sc : T} (hsx : isScr sc = true) {ns : List Int} {i j k : Int} (hs : seqT h sc = some (Li ns)) (hp : h[p]? = some (.lst [sc, .int i, .int j, .int k])) : sc ≠ .ref p := p_ne hs hp (li_ne hsx)
theorem k_pool {sc : T} {ns : List Int} (hn : ns.length ≤ 1000) {h : Hh} {Q : VKT} (hx : seqT h sc = some (Li ns)) (q : ∀ j : Int, Q (.ref h.length) (h ++ [.lst [sc, .int 0, .int j, .int 0]])) : g_l_pool [sc] h Q := by
  refine ⟨rfl, _, rfl, cons_ok (c_ok ?_)⟩
  exact ⟨_, rfl, cons_ok (c_ok (cons_ok (c_ok (nil_ok (k_rest hn hx fun z => cons_ok (c_ok (nil_ok ⟨small' (by simp), q z⟩)))))))⟩
theorem k_draw {p : Nat} {sc : T} (hsx : isScr sc = true) {ns : List Int} (hn : ns.length ≤ 1000) {lim : Nat} (h1 : 0 < lim) (h2 : lim ≤ 20000) {i j k : Int} {h : Hh} {Q : VKT} (hx : seqT h sc = some (Li ns)) (hp : h[p]? = some (.lst [sc, .int i, .int j, .int k]))
    (q : ∀ (v : Nat) (i j k : Int), v < lim → Q (.int (v : Nat)) (h.set p (.lst [sc, .int i, .int j, .int k]))) : g_l_draw [.ref p, .int (lim : Nat)] h Q := by
  have np := pool_ne hsx hx hp
  refine ⟨rfl, ?_⟩
  have fin : ∀ (j k : Int) (h' : Hh), h' = h.set p (.lst [sc, .int i, .int j, .int k]) → (wSeq (wAsg (wBin gMod (wCall gInt (wCons (wBin gIxA (wV 0) (wC (.int 2))) wNil)) (wV 1)) (gNm 2))
      (wSeq (wAsg (wBin gFdiv (wCall gInt (wCons (wBin gIxA (wV 0) (wC (.int 2))) wNil)) (wV 1)) (gSb (wV 0) (wC (.int 2)) gSetA))
      (wRet (wV 2)))) { nx := fun _ h' => Q .non h', rt := Q } [some (.ref p), some (.int (lim : Nat)), none] h' := by
    rintro j k h' rfl
    have hp' := set_same (o' := .lst [sc, .int i, .int j, .int k]) hp
    obtain ⟨m0, m1⟩ := mod_rng j (show (0 : Int) < (lim : Nat) by omega)
    refine ⟨_, rfl, ix_s (i := 2) (seqT_ref hp') rfl (nil_ok ⟨_, rfl, _, rfl, mod_i (by omega) ?_⟩)⟩
    refine ⟨_, rfl, ix_s (i := 2) (seqT_ref hp') rfl (nil_ok ⟨_, rfl, _, rfl, fdiv_i ⟨by omega, by omega⟩ ?_⟩)⟩
    refine ⟨_, rfl, setL_ok (k := 2) hp' (by simp) ?_⟩
    rw [List.set_set]
    obtain ⟨v, hv⟩ : ∃ v : Nat, j.fmod (lim : Nat) = (v : Nat) := ⟨(j.fmod (lim : Nat)).toNat, by omega⟩
    refine ⟨_, rfl, ?_⟩
    show Q (.int (j.fmod (lim : Nat))) _
    rw [hv]
    exact q v i _ k (by omega)
  refine ⟨_, rfl, ix_s (i := 2) (seqT_ref hp) rfl (c_ok (le_i ⟨_, rfl, ite_b (fun _ => ?_) fun _ => ?_⟩))⟩
  · refine ⟨_, rfl, ix_s (i := 3) (seqT_ref hp) rfl (c_ok (add_i ?_))⟩
    refine ⟨_, rfl, setL_ok (k := 3) hp (by simp) ?_⟩
    have hp1 := set_same (o' := .lst [sc, .int i, .int j, .int (k + 1)]) hp
    have hx1 := seq_set (o := .lst [sc, .int i, .int j, .int (k + 1)]) np hx
    refine ⟨_, rfl, ix_s (i := 0) (seqT_ref hp1) rfl ⟨_, rfl, ix_s (i := 1) (seqT_ref hp1) rfl ⟨_, rfl, ix_s (i := 3) (seqT_ref hp1) rfl (nil_ok (k_rest hn hx1 fun z => ?_))⟩⟩⟩
    refine ⟨_, rfl, setL_ok (k := 2) hp1 (by simp) ?_⟩
    exact fin z (k + 1) _ (by rw [List.set_set]; rfl)
  · refine fin j k h ?_
    apply List.ext_getElem?
    intro m
    by_cases z : p = m
    · subst z; rw [set_same hp, hp]
    · rw [List.getElem?_set_ne z]
theorem k_next {p : Nat} {sc : T} (hsx : isScr sc = true) {ns : List Int} (hn : ns.length ≤ 1000) {i j k : Int} {h : Hh} {Q : VKT} (hx : seqT h sc = some (Li ns)) (hp : h[p]? = some (.lst [sc, .int i, .int j, .int k]))
    (q : ∀ i j k : Int, Q .non (h.set p (.lst [sc, .int i, .int j, .int k]))) : g_l_next [.ref p] h Q := by
  have np := pool_ne hsx hx hp
  refine ⟨rfl, ?_⟩
  refine ⟨_, rfl, ix_s (i := 1) (seqT_ref hp) rfl (c_ok (add_i ⟨_, rfl, setL_ok (k := 1) hp (by simp) ?_⟩))⟩
  have hp1 := set_same (o' := .lst [sc, .int (i + 1), .int j, .int k]) hp
  have hx1 := seq_set (o := .lst [sc, .int (i + 1), .int j, .int k]) np hx
  refine ⟨_, rfl, ix_s (i := 0) (seqT_ref hp1) rfl ⟨_, rfl, ix_s (i := 1) (seqT_ref hp1) rfl (cons_ok (c_ok (nil_ok (k_rest hn hx1 fun z => ?_))))⟩⟩
  refine ⟨_, rfl, setL_ok (k := 2) hp1 (by simp) ?_⟩
  rw [List.set_set]
  have hp2 := set_same (o' := .lst [sc, .int (i + 1), .int z, .int k]) hp
  refine ⟨_, rfl, setL_ok (k := 3) hp2 (by simp) ?_⟩
  rw [List.set_set]
  exact q (i + 1) z 0
theorem k_pick {p m : Nat} {sc : T} (hsx : isScr sc = true) {ns : List Int} (hn : ns.length ≤ 1000) {i j k : Int} {fs : List T} (hne : fs ≠ []) (hz : fs.length ≤ 20000) {h : Hh} {Q : VKT} (hx : seqT h sc = some (Li ns)) (hp : h[p]? = some (.lst [sc, .int i, .int j, .int k])) (hm : h[m]? = some (.lst fs)) (hpm : m ≠ p)
    (q : ∀ f ∈ fs, ∀ i j k : Int, Q f (h.set p (.lst [sc, .int i, .int j, .int k]))) : g_l_pick [.ref p, .ref m] h Q := by
  have hpos : 0 < fs.length := List.length_pos_iff.mpr hne
  refine ⟨rfl, _, rfl, _, rfl, _, rfl, nil_ok (len_s (seqT_ref hm) (nil_ok (k_draw hsx hn hpos hz hx hp fun v i j k hv => ?_)))⟩
  have hm' := set_other (o' := .lst [sc, .int i, .int j, .int k]) hpm.symm hm
  exact ix_s (i := v) (seqT_ref hm') (List.getElem?_eq_getElem hv) (q _ (List.getElem_mem hv) i j k)
end K60

/-! The mathematics: the rows cost what they must, answer right, and no shorter table does. -/
namespace K60
open PySem PySem.Spec L2 Tr

theorem cst_le_both (ws : List Int) (k t : Nat) (a : Option Int) : cst ws (k + 1) t a ≤ both ws k t a := (fold_min (fun x => 1 + cst ws k (2 * t) (some x) + cst ws k (2 * t + 1) (some x)) ws (both ws k t a)).1
theorem cst_le_row {ws : List Int} {k t : Nat} {a : Option Int} {x : Int} (hx : x ∈ ws) : cst ws (k + 1) t a ≤ 1 + both ws k t (some x) := by
  have := (fold_min (fun x => 1 + cst ws k (2 * t) (some x) + cst ws k (2 * t + 1) (some x)) ws (both ws k t a)).2.1 x hx
  unfold both
  have e : cst ws (k + 1) t a = ws.foldl (fun b x => min b (1 + cst ws k (2 * t) (some x) + cst ws k (2 * t + 1) (some x))) (both ws k t a) := rfl
  rw [e]; omega
theorem cst_ge {ws : List Int} {k t : Nat} {a : Option Int} {x : Int} (hx : ∀ y ∈ ws, both ws k t (some x) ≤ both ws k t (some y)) (hlt : cst ws (k + 1) t a < both ws k t a) : 1 + both ws k t (some x) ≤ cst ws (k + 1) t a := by
  obtain ⟨_, _, h3⟩ := fold_min (fun x => 1 + cst ws k (2 * t) (some x) + cst ws k (2 * t + 1) (some x)) ws (both ws k t a)
  have e : cst ws (k + 1) t a = ws.foldl (fun b x => min b (1 + cst ws k (2 * t) (some x) + cst ws k (2 * t + 1) (some x))) (both ws k t a) := rfl
  rw [e] at hlt ⊢
  rcases h3 with z | ⟨y, hy, z⟩
  · omega
  · have := hx y hy
    unfold both at *
    omega
theorem tree_len {ws : List Int} {D : Nat} : ∀ {k t : Nat} {a : Option Int} {R : List Row}, Tree ws D k t a R → R.length = cst ws k t a := by
  intro k t a R h
  induction h with
  | fine h => rw [h]; rfl
  | leaf h _ => rw [h]; rfl
  | @keep k t a R1 R2 h _ _ i1 i2 =>
    have := cst_le_both ws k t a
    rw [List.length_append, i1, i2]
    unfold both at *; omega
  | @row k t a x R1 R2 h hx hm _ _ i1 i2 =>
    have h1 := cst_ge hm h
    have h2 := cst_le_row (k := k) (t := t) (a := a) hx
    rw [List.length_cons, List.length_append, i1, i2]
    unfold both at *; omega
/-- a row lies under the node -/
def under (D k t : Nat) (r : Row) : Prop := D - k ≤ r.1 ∧ r.1 ≤ D ∧ r.2.1 / 2 ^ (r.1 - (D - k)) = t
theorem under_up {D k t t' : Nat} {r : Row} (hk : k + 1 ≤ D) (h : under D k t' r) (e : t' / 2 = t) : under D (k + 1) t r := by
  obtain ⟨h1, h2, h3⟩ := h
  refine ⟨by omega, h2, ?_⟩
  rw [show r.1 - (D - (k + 1)) = (r.1 - (D - k)) + 1 by omega, Nat.pow_succ, ← Nat.div_div_eq_div_mul, h3]
  exact e
theorem tree_under {ws : List Int} {D : Nat} : ∀ {k t : Nat} {a : Option Int} {R : List Row}, Tree ws D k t a R → k ≤ D → ∀ r ∈ R, under D k t r := by
  intro k t a R h
  induction h with
  | fine _ => intro _ r hr; cases hr
  | @leaf t a x h hx =>
    intro _ r hr
    have : r = (D, t, x) := by simpa using hr
    subst this
    exact ⟨by simp, Nat.le_refl _, by simp⟩
  | @keep k t a R1 R2 h _ _ i1 i2 =>
    intro hk r hr
    rcases List.mem_append.mp hr with z | z
    · exact under_up hk (i1 (by omega) r z) (by omega)
    · exact under_up hk (i2 (by omega) r z) (by omega)
  | @row k t a x R1 R2 h hx hm _ _ i1 i2 =>
    intro hk r hr
    rcases List.mem_cons.mp hr with z | z
    · subst z; exact ⟨Nat.le_refl _, by show D - (k + 1) ≤ D; omega, by simp⟩
    rcases List.mem_append.mp z with z | z
    · exact under_up hk (i1 (by omega) r z) (by omega)
    · exact under_up hk (i2 (by omega) r z) (by omega)
theorem under_fits {D k t v : Nat} {r : Row} (hk : k ≤ D) (h : under D k t r) (f : fits D v r = true) : v / 2 ^ k = t := by
  obtain ⟨h1, h2, h3⟩ := h
  have e : v / 2 ^ (D - r.1) = r.2.1 := of_decide_eq_true f
  rw [← e, Nat.div_div_eq_div_mul, ← Nat.pow_add, show D - r.1 + (r.1 - (D - k)) = k by omega] at h3
  exact h3
/-- v is answered right by R below a -/
def Right (ws : List Int) (D v : Nat) (a : Option Int) (R : List Row) : Prop := ((∀ r ∈ R, fits D v r = false) ∧ ws[v]? = a) ∨
  ∃ r0 ∈ R, fits D v r0 = true ∧ ws[v]? = some r0.2.2 ∧ ∀ r ∈ R, fits D v r = true → r.1 ≤ r0.1 ∧ (r.1 = r0.1 → ws[v]? = some r.2.2)
theorem Right.add {ws : List Int} {D v : Nat} {a : Option Int} {R S : List Row} (h : Right ws D v a R) (hs : ∀ r ∈ S, fits D v r = false) : Right ws D v a (R ++ S) ∧ Right ws D v a (S ++ R) := by
  have : ∀ L : List Row, (∀ r, r ∈ L ↔ r ∈ R ∨ r ∈ S) → Right ws D v a L := by
    intro L hL
    rcases h with ⟨h1, h2⟩ | ⟨r0, m, f, e, h3⟩
    · exact .inl ⟨fun r hr => ((hL r).mp hr).elim (h1 r) (hs r), h2⟩
    · refine .inr ⟨r0, (hL r0).mpr (.inl m), f, e, fun r hr fr => ?_⟩
      rcases (hL r).mp hr with z | z
      · exact h3 r z fr
      · rw [hs r z] at fr; cases fr
  exact ⟨this _ fun r => List.mem_append, this _ fun r => by rw [List.mem_append]; exact Or.comm⟩
theorem tree_right {ws : List Int} {D : Nat} {v : Nat} (hv : v < ws.length) : ∀ {k t : Nat} {a : Option Int} {R : List Row}, Tree ws D k t a R → k ≤ D → v / 2 ^ k = t → Right ws D v a R := by
  intro k t a R h
  induction h with
  | @fine t a h =>
    intro _ e
    have e' : v = t := by simpa using e
    subst e'
    rcases cst0 ws v a with ⟨_, z | z⟩ | ⟨z, _⟩
    · omega
    · exact .inl ⟨(fun r hr => (nomatch hr)), z⟩
    · omega
  | @leaf t a x h hx =>
    intro _ e
    have e' : v = t := by simpa using e
    subst e'
    refine .inr ⟨(D, v, x), List.mem_cons_self, decide_eq_true (by simp), hx, fun r hr _ => ?_⟩
    have : r = (D, v, x) := by simpa using hr
    subst this
    exact ⟨Nat.le_refl _, fun _ => hx⟩
  | @keep k t a R1 R2 h t1 t2 i1 i2 =>
    intro hk e
    have e2 : v / 2 ^ k / 2 = t := by rw [Nat.div_div_eq_div_mul, ← Nat.pow_succ]; exact e
    have out : ∀ {R' : List Row} {t' : Nat} {a' : Option Int}, Tree ws D k t' a' R' → v / 2 ^ k ≠ t' → ∀ r ∈ R', fits D v r = false := fun ht hn r hr => by
      cases f : fits D v r with
      | false => rfl
      | true => exact absurd (under_fits (by omega) (tree_under ht (by omega) r hr) f) hn
    by_cases z : v / 2 ^ k = 2 * t
    · exact ((i2 (by omega) z).add (out t1 (by omega))).2
    · exact ((i1 (by omega) (by omega)).add (out t2 z)).1
  | @row k t a x R1 R2 h hx hm t1 t2 i1 i2 =>
    intro hk e
    have e2 : v / 2 ^ k / 2 = t := by rw [Nat.div_div_eq_div_mul, ← Nat.pow_succ]; exact e
    have out : ∀ {R' : List Row} {t' : Nat} {a' : Option Int}, Tree ws D k t' a' R' → v / 2 ^ k ≠ t' → ∀ r ∈ R', fits D v r = false := fun ht hn r hr => by
      cases f : fits D v r with
      | false => rfl
      | true => exact absurd (under_fits (by omega) (tree_under ht (by omega) r hr) f) hn
    have both' : Right ws D v (some x) (R1 ++ R2) := by
      by_cases z : v / 2 ^ k = 2 * t
      · exact ((i2 (by omega) z).add (out t1 (by omega))).2
      · exact ((i1 (by omega) (by omega)).add (out t2 z)).1
    have low : ∀ r ∈ R1 ++ R2, D - (k + 1) < r.1 := fun r hr => by
      rcases List.mem_append.mp hr with z | z
      · have := (tree_under t1 (by omega) r z).1; omega
      · have := (tree_under t2 (by omega) r z).1; omega
    have rootf : fits D v (D - (k + 1), t, x) = true := decide_eq_true (by
      show v / 2 ^ (D - (D - (k + 1))) = t
      rw [show D - (D - (k + 1)) = k + 1 by omega]; exact e)
    rcases both' with ⟨n, hx'⟩ | ⟨r0, m, f, e3, h3⟩
    · refine .inr ⟨_, List.mem_cons_self, rootf, hx', fun r hr fr => ?_⟩
      rcases List.mem_cons.mp hr with z | z
      · subst z; exact ⟨Nat.le_refl _, fun _ => hx'⟩
      · rw [n r z] at fr; cases fr
    · refine .inr ⟨r0, List.mem_cons_of_mem _ m, f, e3, fun r hr fr => ?_⟩
      rcases List.mem_cons.mp hr with z | z
      · subst z
        have := low r0 m
        exact ⟨by show D - (k + 1) ≤ r0.1; omega, fun y => absurd (show D - (k + 1) = r0.1 from y) (by omega)⟩
      · exact h3 r z fr
/-! ### the fold finds the longest -/
def FInv (D v : Nat) (rows : List Row) (b : Option (Nat × Int)) : Prop := (b = none ∧ ∀ r ∈ rows, fits D v r = false) ∨
  ∃ l t x, b = some (l, x) ∧ (l, t, x) ∈ rows ∧ fits D v (l, t, x) = true ∧ (∀ r ∈ rows, fits D v r = true → r.1 ≤ l) ∧ rows.find? (fun r => decide (r.1 = l ∧ r.2.1 = t)) = some (l, t, x)
theorem finv_step {D v : Nat} {rows : List Row} {b : Option (Nat × Int)} (h : FInv D v rows b) (r : Row) : FInv D v (rows ++ [r]) (fitStep D v b r) := by
  unfold fitStep
  cases f : fits D v r with
  | false =>
    rw [Bool.false_and, if_neg Bool.false_ne_true]
    rcases h with ⟨h1, h2⟩ | ⟨l, t, x, h1, h2, h3, h4, h5⟩
    · refine .inl ⟨h1, fun s hs => ?_⟩
      rcases List.mem_append.mp hs with z | z
      · exact h2 s z
      · have : s = r := by simpa using z
        subst this; exact f
    · refine .inr ⟨l, t, x, h1, List.mem_append_left _ h2, h3, fun s hs fs => ?_, by rw [List.find?_append, h5]; rfl⟩
      rcases List.mem_append.mp hs with z | z
      · exact h4 s z fs
      · have : s = r := by simpa using z
        subst this; rw [f] at fs; cases fs
  | true =>
    rw [Bool.true_and]
    rcases h with ⟨h1, h2⟩ | ⟨l, t, x, h1, h2, h3, h4, h5⟩
    · subst h1
      refine Eq.mpr (congrArg _ (if_pos rfl)) (.inr ⟨r.1, r.2.1, r.2.2, rfl, List.mem_append_right _ (List.mem_singleton.mpr rfl), f, fun s hs fs => ?_, ?_⟩)
      · rcases List.mem_append.mp hs with z | z
        · rw [h2 s z] at fs; cases fs
        · have : s = r := by simpa using z
          subst this; exact Nat.le_refl _
      · rw [List.find?_append]
        have : rows.find? (fun s => decide (s.1 = r.1 ∧ s.2.1 = r.2.1)) = none := by
          rw [List.find?_eq_none]
          intro s hs z
          obtain ⟨z1, z2⟩ := of_decide_eq_true z
          have : fits D v s = true := by
            have e : v / 2 ^ (D - r.1) = r.2.1 := of_decide_eq_true f
            exact decide_eq_true (by rw [z1, z2]; exact e)
          rw [h2 s hs] at this; cases this
        rw [this]
        simp
    · subst h1
      by_cases hl : l < r.1
      · have : over (some (l, x)) r.1 = true := decide_eq_true hl
        refine Eq.mpr (congrArg _ (if_pos this)) (.inr ⟨r.1, r.2.1, r.2.2, rfl, List.mem_append_right _ (List.mem_singleton.mpr rfl), f, fun s hs fs => ?_, ?_⟩)
        · rcases List.mem_append.mp hs with z | z
          · have := h4 s z fs; omega
          · have : s = r := by simpa using z
            subst this; exact Nat.le_refl _
        · rw [List.find?_append]
          have : rows.find? (fun s => decide (s.1 = r.1 ∧ s.2.1 = r.2.1)) = none := by
            rw [List.find?_eq_none]
            intro s hs z
            obtain ⟨z1, z2⟩ := of_decide_eq_true z
            have e : v / 2 ^ (D - r.1) = r.2.1 := of_decide_eq_true f
            have := h4 s hs (decide_eq_true (by rw [z1, z2]; exact e))
            omega
          rw [this]
          simp
      · have : over (some (l, x)) r.1 = false := decide_eq_false hl
        refine Eq.mpr (congrArg _ (if_neg (by rw [this]; exact Bool.false_ne_true))) (.inr ⟨l, t, x, rfl, List.mem_append_left _ h2, h3, fun s hs fs => ?_, by rw [List.find?_append, h5]; rfl⟩)
        rcases List.mem_append.mp hs with z | z
        · exact h4 s z fs
        · have : s = r := by simpa using z
          subst this; omega
theorem finv {D v : Nat} : ∀ (post pre : List Row) (b : Option (Nat × Int)), FInv D v pre b → FInv D v (pre ++ post) (post.foldl (fitStep D v) b)
  | [], pre, b, h => by rw [List.append_nil]; exact h
  | r :: post, pre, b, h => by
    have := finv post (pre ++ [r]) _ (finv_step h r)
    rw [List.append_assoc] at this
    exact this
theorem fitL_inv (D v : Nat) (rows : List Row) : FInv D v rows (fitL D v rows) := finv rows [] none (.inl ⟨rfl, (fun r hr => (nomatch hr))⟩)
theorem right_fit {ws : List Int} {D v : Nat} {rows : List Row} (h : Right ws D v none rows) (hv : v < ws.length) : ansOf (fitL D v rows) = ws[v]? := by
  rcases h with ⟨_, h⟩ | ⟨r0, m, f, e, h3⟩
  · rw [List.getElem?_eq_getElem hv] at h; cases h
  · rcases fitL_inv D v rows with ⟨_, h2⟩ | ⟨l, t, x, h1, h2, h4, h5, _⟩
    · rw [h2 r0 m] at f; cases f
    · rw [h1]
      have a1 := h5 r0 m f
      obtain ⟨a2, a3⟩ := h3 _ h2 h4
      exact (a3 (Nat.le_antisymm a2 a1)).symm
end K60

/-! No table with fewer rows answers right. -/
namespace K60
open PySem PySem.Spec L2 Tr

abbrev Fn := Nat → Nat → Option Int
def cnt (F : Fn) (D : Nat) : Nat → Nat → Nat
  | 0, t => if (F D t).isSome then 1 else 0
  | k + 1, t => (if (F (D - (k + 1)) t).isSome then 1 else 0) + cnt F D k (2 * t) + cnt F D k (2 * t + 1)
def val (F : Fn) (D v : Nat) : Nat → Option Int → Option Int
  | 0, a => (F D v).or a
  | k + 1, a => val F D v k ((F (D - (k + 1)) (v / 2 ^ (k + 1))).or a)
theorem cst_le_cnt {ws : List Int} {F : Fn} {D : Nat} (hF : ∀ l t x, l ≤ D → F l t = some x → x ∈ ws) : ∀ (k t : Nat) (a : Option Int), k ≤ D → (∀ v, v < ws.length → v / 2 ^ k = t → val F D v k a = ws[v]?) → cst ws k t a ≤ cnt F D k t := by
  intro k
  induction k with
  | zero =>
    intro t a _ h
    unfold cnt
    rcases cst0 ws t a with ⟨z, _⟩ | ⟨z, hl, hne⟩
    · rw [z]; exact Nat.zero_le _
    · have e := h t hl (by simp)
      unfold val at e
      cases f : F D t with
      | none => rw [f] at e; exact absurd e.symm hne
      | some x => rw [z]; simp
  | succ k ih =>
    intro t a hk h
    unfold cnt
    have sub : ∀ a', (F (D - (k + 1)) t).or a = a' → both ws k t a' ≤ cnt F D k (2 * t) + cnt F D k (2 * t + 1) := by
      intro a' ea
      have go : ∀ v, v < ws.length → v / 2 ^ (k + 1) = t → val F D v k a' = ws[v]? := fun v hv e => by
        have := h v hv e
        unfold val at this
        rw [e, ea] at this
        exact this
      have d : ∀ v t', v / 2 ^ k = t' → v / 2 ^ (k + 1) = t' / 2 := fun v t' e => by rw [Nat.pow_succ, ← Nat.div_div_eq_div_mul, e]
      have i1 := ih (2 * t) a' (by omega) fun v hv e => go v hv (by rw [d v _ e]; omega)
      have i2 := ih (2 * t + 1) a' (by omega) fun v hv e => go v hv (by rw [d v _ e]; omega)
      unfold both; omega
    cases f : F (D - (k + 1)) t with
    | none =>
      have := sub a (by rw [f]; rfl)
      have := cst_le_both ws k t a
      simp; omega
    | some x =>
      have hx := hF _ _ _ (by omega) f
      have := sub (some x) (by rw [f]; rfl)
      have := cst_le_row (k := k) (t := t) (a := a) hx
      simp; omega
/-- the first row of a place -/
def firstOf (rows : List Row) : Fn := fun l t => (rows.find? fun r => decide (r.1 = l ∧ r.2.1 = t)).map (·.2.2)
theorem cnt_cons {D : Nat} (r : Row) (rows : List Row) (hr : r.1 ≤ D) : ∀ (k t : Nat), k ≤ D → cnt (firstOf (r :: rows)) D k t ≤ cnt (firstOf rows) D k t + (if D - k ≤ r.1 ∧ r.2.1 / 2 ^ (r.1 - (D - k)) = t then 1 else 0) := by
  have one : ∀ l t, (if (firstOf (r :: rows) l t).isSome then 1 else 0) ≤ (if (firstOf rows l t).isSome then 1 else 0) + (if r.1 = l ∧ r.2.1 = t then 1 else 0) := by
    intro l t
    unfold firstOf
    rw [List.find?_cons]
    by_cases z : r.1 = l ∧ r.2.1 = t
    · rw [decide_eq_true z, if_pos z]; simp
    · rw [decide_eq_false z, if_neg z]; simp
  intro k
  induction k with
  | zero =>
    intro t _
    unfold cnt
    have h := one D t
    by_cases z : r.1 = D ∧ r.2.1 = t
    · rw [if_pos z] at h
      rw [if_pos (show D - 0 ≤ r.1 ∧ r.2.1 / 2 ^ (r.1 - (D - 0)) = t from ⟨by omega, by rw [show r.1 - (D - 0) = 0 by omega]; simpa using z.2⟩)]
      exact h
    · rw [if_neg z] at h
      exact Nat.le_trans h (Nat.le_add_right _ _)
  | succ k ih =>
    intro t hk
    unfold cnt
    have h := one (D - (k + 1)) t
    have i1 := ih (2 * t) (by omega)
    have i2 := ih (2 * t + 1) (by omega)
    have up : D - k ≤ r.1 → r.2.1 / 2 ^ (r.1 - (D - (k + 1))) = r.2.1 / 2 ^ (r.1 - (D - k)) / 2 := fun h1 => by
      rw [show r.1 - (D - (k + 1)) = (r.1 - (D - k)) + 1 by omega, Nat.pow_succ, ← Nat.div_div_eq_div_mul]
    have kt : D - k ≤ r.1 → ¬ (r.1 = D - (k + 1) ∧ r.2.1 = t) := fun h z => by omega
    by_cases c1 : D - k ≤ r.1 ∧ r.2.1 / 2 ^ (r.1 - (D - k)) = 2 * t
    · have c2 : ¬ (D - k ≤ r.1 ∧ r.2.1 / 2 ^ (r.1 - (D - k)) = 2 * t + 1) := fun z => by omega
      have c3 : D - (k + 1) ≤ r.1 ∧ r.2.1 / 2 ^ (r.1 - (D - (k + 1))) = t := ⟨by omega, by rw [up c1.1, c1.2]; omega⟩
      rw [if_pos c1] at i1
      rw [if_neg c2] at i2
      rw [if_neg (kt c1.1)] at h
      rw [if_pos c3]
      omega
    · rw [if_neg c1] at i1
      by_cases c2 : D - k ≤ r.1 ∧ r.2.1 / 2 ^ (r.1 - (D - k)) = 2 * t + 1
      · have c3 : D - (k + 1) ≤ r.1 ∧ r.2.1 / 2 ^ (r.1 - (D - (k + 1))) = t := ⟨by omega, by rw [up c2.1, c2.2]; omega⟩
        rw [if_pos c2] at i2
        rw [if_neg (kt c2.1)] at h
        rw [if_pos c3]
        omega
      · rw [if_neg c2] at i2
        by_cases z : r.1 = D - (k + 1) ∧ r.2.1 = t
        · have c3 : D - (k + 1) ≤ r.1 ∧ r.2.1 / 2 ^ (r.1 - (D - (k + 1))) = t := ⟨by omega, by rw [show r.1 - (D - (k + 1)) = 0 by omega]; simpa using z.2⟩
          rw [if_pos z] at h
          rw [if_pos c3]
          omega
        · rw [if_neg z] at h
          exact Nat.le_trans (by omega) (Nat.le_add_right _ _)
theorem cnt_le {D : Nat} : ∀ rows : List Row, (∀ r ∈ rows, r.1 ≤ D) → cnt (firstOf rows) D D 0 ≤ rows.length
  | [], _ => by
    have : ∀ k t, cnt (firstOf []) D k t = 0 := by
      intro k
      induction k with
      | zero => intro t; rfl
      | succ k ih => intro t; unfold cnt; rw [ih, ih]; rfl
    rw [this]; exact Nat.zero_le _
  | r :: rows, h => by
    have ih := cnt_le rows fun s hs => h s (List.mem_cons_of_mem _ hs)
    have := cnt_cons r rows (h r List.mem_cons_self) D 0 (Nat.le_refl _)
    have h2 : (if D - D ≤ r.1 ∧ r.2.1 / 2 ^ (r.1 - (D - D)) = 0 then 1 else 0) ≤ 1 := by split <;> omega
    rw [List.length_cons]; omega
/-- what is found down from the top -/
theorem val_none {F : Fn} {D v : Nat} : ∀ (k : Nat) (a : Option Int), k ≤ D → (∀ l, D - k ≤ l → l ≤ D → F l (v / 2 ^ (D - l)) = none) → val F D v k a = a
  | 0, a, _, h => by
    have := h D (by omega) (Nat.le_refl _)
    unfold val
    rw [Nat.sub_self, Nat.pow_zero, Nat.div_one] at this
    rw [this]; rfl
  | k + 1, a, hk, h => by
    have := h (D - (k + 1)) (Nat.le_refl _) (by omega)
    rw [show D - (D - (k + 1)) = k + 1 by omega] at this
    unfold val
    rw [this]
    exact val_none k a (by omega) fun l h1 h2 => h l (by omega) h2
theorem val_some {F : Fn} {D v l : Nat} {x : Int} (hl : l ≤ D) (hx : F l (v / 2 ^ (D - l)) = some x) (hn : ∀ l', l < l' → l' ≤ D → F l' (v / 2 ^ (D - l')) = none) : ∀ (k : Nat) (a : Option Int), k ≤ D → D - k ≤ l → val F D v k a = some x
  | 0, a, _, h => by
    have : l = D := by omega
    subst this
    unfold val
    rw [Nat.sub_self, Nat.pow_zero, Nat.div_one] at hx
    rw [hx]; rfl
  | k + 1, a, hk, h => by
    unfold val
    by_cases z : l = D - (k + 1)
    · subst z
      rw [show D - (D - (k + 1)) = k + 1 by omega] at hx
      rw [hx]
      exact val_none k _ (by omega) fun l' h1 h2 => hn l' (by omega) h2
    · exact val_some hl hx hn k _ (by omega) (by omega)
theorem fit_val {D v : Nat} {rows : List Row} (hr : ∀ r ∈ rows, r.1 ≤ D) : ansOf (fitL D v rows) = val (firstOf rows) D v D none := by
  have none_of : ∀ l, (∀ r ∈ rows, fits D v r = true → r.1 ≠ l) → firstOf rows l (v / 2 ^ (D - l)) = none := fun l h => by
    unfold firstOf
    rw [Option.map_eq_none_iff, List.find?_eq_none]
    intro r hr z
    obtain ⟨z1, z2⟩ := of_decide_eq_true z
    exact h r hr (decide_eq_true (by rw [z1, z2])) z1
  rcases fitL_inv D v rows with ⟨h1, h2⟩ | ⟨l, t, x, h1, h2, h3, h4, h5⟩
  · rw [h1, val_none D none (Nat.le_refl _)]
    · rfl
    · intro l _ _
      exact none_of l fun r hr f => by rw [h2 r hr] at f; cases f
  · have hl := hr _ h2
    have e : v / 2 ^ (D - l) = t := of_decide_eq_true h3
    have hx : firstOf rows l (v / 2 ^ (D - l)) = some x := by
      unfold firstOf
      rw [e, h5]; rfl
    rw [h1, val_some hl hx (fun l' g1 g2 => none_of l' fun r hr f => by have := h4 r hr f; omega) D none (Nat.le_refl _) (by omega)]
    rfl
theorem no_shorter {ws : List Int} {D : Nat} {rows : List Row} (h8 : ws.length ≤ 2 ^ D) (hr : ∀ r ∈ rows, r.1 ≤ D ∧ r.2.2 ∈ ws) (hv : ∀ v, v < ws.length → ansOf (fitL D v rows) = ws[v]?) : cst ws D 0 none ≤ rows.length := by
  refine Nat.le_trans (cst_le_cnt (F := firstOf rows) (fun l t x _ h => ?_) D 0 none (Nat.le_refl _) fun v h _ => ?_) (cnt_le rows fun r h => (hr r h).1)
  · unfold firstOf at h
    obtain ⟨r, h1, rfl⟩ := Option.map_eq_some_iff.mp h
    exact (hr r (List.mem_of_find?_eq_some h1)).2
  · rw [← fit_val fun r h => (hr r h).1]
    exact hv v h
end K60

namespace K60
open PySem PySem.Spec L2 Tr

structure Base (ns : List Int) (sc : T) (p : Nat) (h : Hh) : Prop where
  pool : ∃ i j k : Int, h[p]? = some (.lst [sc, .int i, .int j, .int k])
  scr : seqT h sc = some (Li ns)
  isS : isScr sc = true
theorem Base.gr {ns : List Int} {sc : T} {p : Nat} {h h' : Hh} (B : Base ns sc p h) (g : Gr h h') : Base ns sc p h' := ⟨let ⟨i, j, k, e⟩ := B.pool; ⟨i, j, k, g _ _ e⟩, seqT_gr g B.scr, B.isS⟩
theorem Base.set {ns : List Int} {sc : T} {p : Nat} {h : Hh} (B : Base ns sc p h) (i j k : Int) : Base ns sc p (h.set p (.lst [sc, .int i, .int j, .int k])) := by
  obtain ⟨a, b, c, e⟩ := B.pool
  exact ⟨⟨i, j, k, set_same e⟩, seq_set (pool_ne B.isS B.scr e) B.scr, B.isS⟩
theorem Base.ne {ns : List Int} {sc : T} {p m : Nat} {h : Hh} (B : Base ns sc p h) {o : O} (e : h[m]? = some o) (ho : ∀ i j k : Int, o ≠ .lst [sc, .int i, .int j, .int k]) : m ≠ p := fun z => by
  obtain ⟨a, b, c, e'⟩ := B.pool
  subst z
  rw [e'] at e
  exact ho a b c (Option.some.inj e).symm
/-- all but the pool is kept -/
def Ex (p : Nat) (h h' : Hh) : Prop := ∀ (i : Nat) (o : O), i ≠ p → h[i]? = some o → h'[i]? = some o
theorem Gr.ex {p : Nat} {h h' : Hh} (g : Gr h h') : Ex p h h' := fun i o _ e => g i o e
theorem Ex.trans {p : Nat} {a b c : Hh} (x : Ex p a b) (y : Ex p b c) : Ex p a c := fun i o n e => y i o n (x i o n e)
theorem Ex.set (p : Nat) (h : Hh) (o : O) : Ex p h (h.set p o) := fun i o' n e => by rw [List.getElem?_set_ne n.symm]; exact e
section
variable {ns : List Int} (hn : ns.length ≤ 1000) {sc : T} {p : Nat}
include hn
theorem draw_ok {lim : Nat} (h1 : 0 < lim) (h2 : lim ≤ 20000) {h : Hh} {Q : VKT} (B : Base ns sc p h) (q : ∀ (v : Nat) (h' : Hh), v < lim → Base ns sc p h' → Ex p h h' → Q (.int (v : Nat)) h') : g_l_draw [.ref p, .int (lim : Nat)] h Q := by
  obtain ⟨i, j, k, e⟩ := B.pool
  exact k_draw B.isS hn h1 h2 B.scr e fun v i j k hv => q v _ hv (B.set i j k) (Ex.set p h _)
theorem next_ok {h : Hh} {Q : VKT} (B : Base ns sc p h) (q : ∀ (h' : Hh), Base ns sc p h' → Ex p h h' → Q .non h') : g_l_next [.ref p] h Q := by
  obtain ⟨i, j, k, e⟩ := B.pool
  exact k_next B.isS hn B.scr e fun i j k => q _ (B.set i j k) (Ex.set p h _)
theorem pick_ok {m : Nat} {fs : List T} (hne : fs ≠ []) (hz : fs.length ≤ 20000) {h : Hh} {Q : VKT} (B : Base ns sc p h) (hm : h[m]? = some (.lst fs)) (hpm : m ≠ p) (q : ∀ (f : T) (h' : Hh), f ∈ fs → Base ns sc p h' → Ex p h h' → Q f h') : g_l_pick [.ref p, .ref m] h Q := by
  obtain ⟨i, j, k, e⟩ := B.pool
  exact k_pick B.isS hn hne hz B.scr e hm hpm fun f hf i j k => q f _ hf (B.set i j k) (Ex.set p h _)
/-- wished = tuple(..) -/
theorem wished_ok {many : Nat} (hm : 0 < many) (hm2 : many ≤ 3) {y0 y2 y4 y5 y6 y7 y8 y9 y10 y11 y12 y13 y14 y15 y16 y17 y18 : Option T} {De : EndsT} {h : Hh} (B : Base ns sc p h)
    (q : ∀ (ws : List Int) (h' : Hh), ws ≠ [] → ws.length ≤ 8 → Base ns sc p h' → De.nx [y0, some (.ref p), y2, some (.int (many : Nat)), some (.tup (Li ws)), y5, y6, y7, y8, y9, y10, y11, y12, y13, y14, y15, y16, y17, y18] h') :
    wAsg (wCall gTuple (wCons (wLcR [7] (wCons (wBin gAdd (wC (.int 1)) (wCall g_l_draw (wCons (wV 1) (wCons (wC (.int 8)) wNil)))) wNil) (gNm 7) wYes (wBin gAdd (wC (.int 5)) (wCall g_l_draw (wCons (wV 1) (wCons (wV 3) wNil))))) wNil)) (gNm 4) De
      [y0, some (.ref p), y2, some (.int (many : Nat)), y4, y5, y6, y7, y8, y9, y10, y11, y12, y13, y14, y15, y16, y17, y18] h := by
  refine asg_ok (cons_ok ?_)
  refine ⟨_, rfl, cons_ok (c_ok (nil_ok (draw_ok hn (lim := 8) (by decide) (by decide) B fun v h1 hv B1 _ => add_i (nil_ok ?_))))⟩
  have e1 : (1 : Int) + ((v : Nat) : Int) = ((v + 1 : Nat) : Int) := by omega
  rw [e1]
  refine ⟨_, rfl, by omega, by omega, fun i acc h' => Base ns sc p h' ∧ ∃ ws : List Int, acc = Li ws ∧ ws.length = i, ⟨B1, [], rfl, rfl⟩, ?_, ?_⟩
  · rintro i acc h' hi ⟨B2, ws, rfl, hl⟩
    have hi' : i < v + 1 := hi
    refine step_nm (bin_ok (c_ok ⟨_, rfl, _, rfl, nil_ok (draw_ok hn hm (by omega) B2 fun x h3 hx B3 _ => add_i ⟨small (by rw [List.length_map]; omega), B3, ws ++ [5 + ((x : Nat) : Int)], by simp, by simp [hl]⟩)⟩))
  · rintro acc h' ⟨B2, ws, rfl, hl⟩
    have hl' : ws.length = v + 1 := hl
    refine nil_ok ?_
    refine ⟨_, _, rfl, seqT_ref (get_new _ _), ?_⟩
    exact q ws _ (fun z => by rw [z] at hl'; simp at hl') (by omega) (B2.gr (gr_new _ _))
end
/-- depth and whole -/
theorem depth_ok {ws : List Int} (h8 : ws.length ≤ 8) {y0 y1 y2 y3 y7 y8 y9 y10 y11 y12 y13 y14 y15 y16 y17 y18 : Option T} {De : EndsT} {h : Hh}
    (q : ∀ y7, De.nx [y0, y1, y2, y3, some (.tup (Li ws)), some (.int (bitsN ws.length : Nat)), some (.int (2 ^ bitsN ws.length : Nat)), y7, y8, y9, y10, y11, y12, y13, y14, y15, y16, y17, y18] h) :
    wForR (wCons (wC (.int 4)) wNil) (gNm 7) (wIfS (wTst (wBin gLt (wV 6) (wCall gLen (wCons (wV 4) wNil)))) (wSeq (wAsg (wBin gAdd (wV 5) (wC (.int 1))) (gNm 5)) (wAsg (wBin gMul (wC (.int 2)) (wV 6)) (gNm 6))) wNext) De
      [y0, y1, y2, y3, some (.tup (Li ws)), some (.int 0), some (.int 1), y7, y8, y9, y10, y11, y12, y13, y14, y15, y16, y17, y18] h := by
  have hl : (Li ws).length = ws.length := List.length_map ..
  have b3 := bits_le3 ws.length
  refine cons_ok (c_ok (nil_ok ⟨4, rfl, by decide, by decide, fun i s h' => ∃ y7, s = [y0, y1, y2, y3, some (.tup (Li ws)), some (.int (min i (bitsN ws.length) : Nat)), some (.int (2 ^ min i (bitsN ws.length) : Nat)), y7, y8, y9, y10, y11, y12, y13, y14, y15, y16, y17, y18] ∧ h' = h, ⟨y7, by rw [Nat.zero_min]; rfl, rfl⟩, ?_, ?_⟩))
  · rintro i s h' hi ⟨y7, rfl, rfl⟩
    have key := bits_lt ws.length h8 (min i (bitsN ws.length)) (by omega)
    refine ⟨_, rfl, _, rfl, nil_ok (len_s rfl (lt_i ⟨_, rfl, ite_dec (fun hy => ?_) fun hn => ?_⟩))⟩
    · have hlt : min i (bitsN ws.length) < bitsN ws.length := key.mp (by omega)
      have e : min (i + 1) (bitsN ws.length) = min i (bitsN ws.length) + 1 := by omega
      refine ⟨_, rfl, add_i ⟨_, rfl, mul_i (two_mul_ok _) ⟨some (.int (i : Nat)), ?_, rfl⟩⟩⟩
      rw [two_pow, e]; rfl
    · have hge : ¬ min i (bitsN ws.length) < bitsN ws.length := fun z => hn (by have := key.mpr z; omega)
      have e : min (i + 1) (bitsN ws.length) = min i (bitsN ws.length) := by omega
      exact ⟨some (.int (i : Nat)), by rw [e]; rfl, rfl⟩
  · rintro s h' ⟨y7, rfl, rfl⟩
    have e : min (4 : Int).toNat (bitsN ws.length) = bitsN ws.length := Nat.min_eq_right (by show bitsN ws.length ≤ 4; omega)
    rw [e]
    exact q y7
theorem len_pow {n : Nat} (h8 : n ≤ 8) : n ≤ 2 ^ bitsN n := by
  have := bits_lt n h8 (bitsN n) (bits_le3 n)
  omega
/-- names -/
theorem names_ok {ws : List Int} (h8 : ws.length ≤ 8) {y0 y1 y2 y3 y5 y6 y7 y9 y10 y11 y12 y13 y14 y15 y16 y17 y18 : Option T} {De : EndsT} {h0 h : Hh} {m : Nat} (hm : h[m]? = some (.lst [])) (g : Gr h0 h)
    (q : ∀ y9 h' m, Gr h0 h' → h'[m]? = some (.lst (Li (ansL ws))) → De.nx [y0, y1, y2, y3, some (.tup (Li ws)), y5, y6, y7, some (.ref m), y9, y10, y11, y12, y13, y14, y15, y16, y17, y18] h') :
    wFor (wV 4) (gNm 9) (wAsg (wIf (wTst (wBin (gInA false) (wV 9) (wV 8))) (wV 8) (wBin gAdd (wV 8) (wLst (wCons (wV 9) wNil)))) (gNm 8)) De
      [y0, y1, y2, y3, some (.tup (Li ws)), y5, y6, y7, some (.ref m), y9, y10, y11, y12, y13, y14, y15, y16, y17, y18] h := by
  refine ⟨_, rfl, Li ws, rfl, fun i s h' => ∃ (m : Nat) (y9 : Option T), s = [y0, y1, y2, y3, some (.tup (Li ws)), y5, y6, y7, some (.ref m), y9, y10, y11, y12, y13, y14, y15, y16, y17, y18] ∧ Gr h0 h' ∧ h'[m]? = some (.lst (Li ((ws.take i).foldl ansStep []))), ⟨m, y9, rfl, g, hm⟩, fun _ _ _ _ _ => rfl, ?_, ?_⟩
  · rintro i y s h' hi ⟨m, y9, rfl, g', hm'⟩
    obtain ⟨a, rfl, ha, hlt⟩ := li_get hi
    have st := take_fold ansStep [] ws i a ha
    have hal := ans_len (ws.take i) []
    refine asg_ok ?_
    refine ⟨_, rfl, _, rfl, in_ints (neg := false) (seqT_ref hm') ⟨_, rfl, ite_dec (fun hy => ?_) (fun hn => ?_)⟩⟩
    · refine ⟨_, rfl, m, some (.int a), rfl, g', ?_⟩
      rw [st, show ansStep ((ws.take i).foldl ansStep []) a = (ws.take i).foldl ansStep [] from if_pos hy]; exact hm'
    · refine ⟨_, rfl, _, rfl, nil_ok ⟨small' (by simp), cat_ok (ys := [T.int a]) ((gr_new _ _) _ _ hm') (get_new _ _) (small' (by simp at hal ⊢; omega)) ⟨_, some (.int a), rfl, g'.trans ((gr_new _ _).trans (gr_new _ _)), ?_⟩⟩⟩
      rw [st, show ansStep ((ws.take i).foldl ansStep []) a = (ws.take i).foldl ansStep [] ++ [a] from if_neg hn, get_new]
      simp
  · rintro s h' ⟨m, y9, rfl, g', hm'⟩
    rw [List.length_map, List.take_length] at hm'
    exact q y9 h' m g' hm'
end K60

namespace K60
open PySem PySem.Spec L2 Tr

/-! ### due -/
def rowE (ws : List Int) (p : Nat × Nat) : List Ek := (tops ws).map fun a => (p.1, p.2, a)
def dueE (ws : List Int) (D : Nat) : List Ek := (headsL (D + 1)).flatMap (rowE ws)
theorem heads_nd {d : Nat} (hd : d ≤ 4) : (headsL d).Nodup := by
  have : ∀ d, d ≤ 4 → (headsL d).Nodup := by decide
  exact this d hd
theorem mem_rowE {ws : List Int} {p : Nat × Nat} {e : Ek} : e ∈ rowE ws p ↔ e.1 = p.1 ∧ e.2.1 = p.2 ∧ e.2.2 ∈ tops ws := by
  obtain ⟨l, t, a⟩ := e
  unfold rowE
  simp only [List.mem_map, Prod.mk.injEq]
  constructor
  · rintro ⟨a', h, rfl, rfl, rfl⟩; exact ⟨rfl, rfl, h⟩
  · rintro ⟨rfl, rfl, h⟩; exact ⟨a, h, rfl, rfl, rfl⟩
theorem mem_heads2 {d : Nat} {p : Nat × Nat} : p ∈ headsL d ↔ p.1 < d ∧ p.2 < 2 ^ p.1 := by
  obtain ⟨l, t⟩ := p
  unfold headsL
  simp only [List.mem_flatMap, List.mem_map, List.mem_range, Prod.mk.injEq]
  constructor
  · rintro ⟨l', hl, t', ht, rfl, rfl⟩; exact ⟨hl, ht⟩
  · rintro ⟨hl, ht⟩; exact ⟨l, hl, t, ht, rfl, rfl⟩
theorem due_all {ws : List Int} {D : Nat} {e : Ek} (h : e ∈ dueE ws D) : e ∈ allE ws D := by
  obtain ⟨p, hp, he⟩ := List.mem_flatMap.mp h
  obtain ⟨h1, h2, h3⟩ := mem_rowE.mp he
  obtain ⟨g1, g2⟩ := mem_heads2.mp hp
  obtain ⟨l, t, a⟩ := e
  change l = p.1 at h1
  change t = p.2 at h2
  exact mem_all (by omega) (by rw [h1, h2]; exact g2) h3
theorem all_due {ws : List Int} {D l t : Nat} {a : Option Int} (h1 : l ≤ D) (h2 : t < 2 ^ l) (h3 : a ∈ tops ws) : ((l, t, a) : Ek) ∈ dueE ws D :=
  List.mem_flatMap.mpr ⟨(l, t), mem_heads2.mpr ⟨Nat.lt_succ_of_le h1, h2⟩, mem_rowE.mpr ⟨rfl, rfl, h3⟩⟩
theorem flat_eq {α β : Type} {f : α → List β} {B : Nat} : ∀ {l : List α}, (∀ a ∈ l, (f a).length = B) → (l.flatMap f).length = l.length * B
  | [], _ => by simp
  | a :: l, h => by
    have ih := flat_eq (f := f) (B := B) (l := l) fun b hb => h b (List.mem_cons_of_mem _ hb)
    have := h a List.mem_cons_self
    rw [List.flatMap_cons, List.length_append, List.length_cons, Nat.succ_mul]
    omega
theorem lvl_len (As : List (Option Int)) (l : Nat) : (lvl As l).length = 2 ^ l * As.length := by
  have := flat_eq (l := List.range (2 ^ l)) (f := fun t => As.map fun a => ((l, t, a) : Ek)) (B := As.length) fun t _ => by simp
  rw [List.length_range] at this
  exact this
theorem due_len {ws : List Int} {D : Nat} (hD : D ≤ 3) : (allE ws D).length = (dueE ws D).length := by
  have e2 : (dueE ws D).length = (headsL (D + 1)).length * (tops ws).length := flat_eq fun p _ => by unfold rowE; simp
  rw [e2]
  unfold allE down
  generalize hL : (tops ws).length = L
  have hl : ∀ j, (lvl (tops ws) j).length = 2 ^ j * L := fun j => by rw [lvl_len, hL]
  have c : D = 0 ∨ D = 1 ∨ D = 2 ∨ D = 3 := by omega
  have h1 : (headsL 1).length = 1 := by decide
  have h2 : (headsL 2).length = 3 := by decide
  have h3 : (headsL 3).length = 7 := by decide
  have h4 : (headsL 4).length = 15 := by decide
  rcases c with rfl | rfl | rfl | rfl
  · simp [List.range_succ, hl, h1]
  · simp [List.range_succ, hl, h2]; omega
  · simp [List.range_succ, hl, h3]; omega
  · simp [List.range_succ, hl, h4]; omega
theorem heads_get2 {d i : Nat} {y : T} (h : ((headsL d).map hT)[i]? = some y) : ∃ p, y = hT p ∧ (headsL d)[i]? = some p ∧ i < (headsL d).length := by
  rw [List.getElem?_map] at h
  cases e : (headsL d)[i]? with
  | none => rw [e] at h; cases h
  | some a => rw [e] at h; cases h; exact ⟨a, rfl, rfl, (List.getElem?_eq_some_iff.mp e).1⟩
theorem rowE_len (ws : List Int) (p : Nat × Nat) : (rowE ws p).length = (tops ws).length := by unfold rowE; simp
abbrev wDue : WS := wFor (wCall g_l_heads (wCons (wV 5) wNil)) (gTp 2 (gsCons (gNm 13) (gsCons (gNm 14) gsNil))) (wFor (wBin gAdd (wLst (wCons (wC .non) wNil)) (wV 8)) (gNm 15) (wAsg (wCall (g_l_cost_own 5) (wCons (wV 4) (wCons (wV 5) (wCons (wV 13) (wCons (wV 14) (wCons (wV 15) wNil)))))) (gSb (wV 12) (wTup (wCons (wV 13) (wCons (wV 14) (wCons (wV 15) wNil)))) gSetA)))
theorem due_ok {ws : List Int} (h8 : ws.length ≤ 8) {D : Nat} (hD : D ≤ 3) {nn : Nat} {y0 y1 y2 y3 y6 y7 y9 y10 y11 y13 y14 y15 y16 y17 y18 : Option T} {De : EndsT} {h0 h : Hh} (g0 : Gr h0 h) (en : h0[nn]? = some (.lst (Li (ansL ws)))) (ed : h[h0.length]? = some (.dict []))
    (q : ∀ y13 y14 y15 h', Gr h0 h' → h'[h0.length]? = some (.dict (DB (CC ws D) (dueE ws D))) → De.nx [y0, y1, y2, y3, some (.tup (Li ws)), some (.int (D : Nat)), y6, y7, some (.ref nn), y9, y10, y11, some (.ref h0.length), y13, y14, y15, y16, y17, y18] h') :
    wDue De [y0, y1, y2, y3, some (.tup (Li ws)), some (.int (D : Nat)), y6, y7, some (.ref nn), y9, y10, y11, some (.ref h0.length), y13, y14, y15, y16, y17, y18] h := by
  have hAs : (tops ws).length ≤ 9 := by have := tops_len ws; omega
  have hh := heads_len (D + 1) (by omega)
  have hal : (ansL ws).length ≤ 8 := by have := ans_len ws []; simp at this; unfold ansL; omega
  have hlen : ∀ i, (((headsL (D + 1)).take i).flatMap (rowE ws)).length ≤ 135 := fun i => by
    have := flat_len (l := (headsL (D + 1)).take i) (f := rowE ws) (B := 9) fun p _ => by rw [rowE_len]; exact hAs
    have h2 : ((headsL (D + 1)).take i).length ≤ 15 := by rw [List.length_take]; omega
    omega
  refine ⟨_, rfl, nil_ok (k_heads hD fun z => ?_)⟩
  have g1 : Gr h (h ++ z ++ [O.lst ((headsL (D + 1)).map hT)]) := (Gr.app h z).trans (gr_new _ _)
  have eh := get_new (h ++ z) (O.lst ((headsL (D + 1)).map hT))
  generalize h ++ z ++ [O.lst ((headsL (D + 1)).map hT)] = h1 at *
  generalize hnh : (h ++ z).length = nh at *
  have hne : h0.length ≠ nh := by
    have := (List.getElem?_eq_some_iff.mp ed).1
    simp at hnh; omega
  refine ⟨(headsL (D + 1)).map hT, seqT_ref eh, fun i s h' => ∃ y13 y14 y15, s = [y0, y1, y2, y3, some (.tup (Li ws)), some (.int (D : Nat)), y6, y7, some (.ref nn), y9, y10, y11, some (.ref h0.length), y13, y14, y15, y16, y17, y18] ∧ Gr h0 h' ∧
    h'[h0.length]? = some (.dict (DB (CC ws D) (((headsL (D + 1)).take i).flatMap (rowE ws)))) ∧ h'[nh]? = some (.lst ((headsL (D + 1)).map hT)), ⟨_, _, _, rfl, g0.trans g1, g1 _ _ ed, eh⟩, ?_, ?_, ?_⟩
  · rintro i s h' _ ⟨_, _, _, _, _, _, e⟩; exact seqT_ref e
  · rintro i y s h2 hi ⟨y13, y14, y15, rfl, g2, ed2, eh2⟩
    obtain ⟨⟨l, t⟩, rfl, hp, hil⟩ := heads_get2 hi
    have hpm := List.mem_of_getElem? hp
    obtain ⟨hlD, ht⟩ := mem_heads2.mp hpm
    change l < D + 1 at hlD
    change t < 2 ^ l at ht
    refine gTp2 ?_
    refine ⟨small' (by simp), _, rfl, cat_ok (get_new _ _) ((gr_new _ _) _ _ (g2 _ _ en)) (small' (by simp; omega)) ?_⟩
    have g3 : Gr h2 (h2 ++ [O.lst [T.non]] ++ [O.lst ([T.non] ++ Li (ansL ws))]) := (gr_new _ _).trans (gr_new _ _)
    have ea : (h2 ++ [O.lst [T.non]] ++ [O.lst ([T.non] ++ Li (ansL ws))])[(h2 ++ [O.lst [T.non]]).length]? = some (.lst ((tops ws).map toT)) := by rw [tops_map]; exact get_new _ _
    have hna : (h2 ++ [O.lst [T.non]]).length ≠ h0.length := by
      have := (List.getElem?_eq_some_iff.mp ed2).1
      simp; omega
    generalize h2 ++ [O.lst [T.non]] ++ [O.lst ([T.non] ++ Li (ansL ws))] = h3 at *
    generalize (h2 ++ [O.lst [T.non]]).length = na at *
    refine ⟨(tops ws).map toT, seqT_ref ea, fun j s h' => ∃ y15, s = [y0, y1, y2, y3, some (.tup (Li ws)), some (.int (D : Nat)), y6, y7, some (.ref nn), y9, y10, y11, some (.ref h0.length), some (.int (l : Nat)), some (.int (t : Nat)), y15, y16, y17, y18] ∧ Gr h0 h' ∧
      h'[h0.length]? = some (.dict (DB (CC ws D) (((headsL (D + 1)).take i).flatMap (rowE ws) ++ ((tops ws).take j).map fun a => (l, t, a)))) ∧ h'[nh]? = some (.lst ((headsL (D + 1)).map hT)) ∧ h'[na]? = some (.lst ((tops ws).map toT)), ⟨_, rfl, g2.trans g3, by simpa using g3 _ _ ed2, g3 _ _ eh2, ea⟩, ?_, ?_, ?_⟩
    · rintro j s h' _ ⟨_, _, _, _, _, e⟩; exact seqT_ref e
    · rintro j y s h4 hj ⟨y15, rfl, g4, ed4, eh4, ea4⟩
      obtain ⟨a, rfl, ha, hjl⟩ := as_get hj
      have hnew : (l, t, a) ∉ ((headsL (D + 1)).take i).flatMap (rowE ws) ++ ((tops ws).take j).map fun a => ((l, t, a) : Ek) := by
        intro z
        rcases List.mem_append.mp z with z | z
        · obtain ⟨p, hp', he⟩ := List.mem_flatMap.mp z
          obtain ⟨e1, e2, _⟩ := mem_rowE.mp he
          have : p = (l, t) := by
            obtain ⟨p1, p2⟩ := p
            change l = p1 at e1
            change t = p2 at e2
            rw [e1, e2]
          subst this
          exact nd_take (heads_nd (by omega)) hp hp'
        · obtain ⟨b, hb, e⟩ := List.mem_map.mp z
          cases e
          exact nd_take (tops_nd ws) ha hb
      refine asg_ok ?_
      refine ⟨_, rfl, _, rfl, _, rfl, _, rfl, _, rfl, nil_ok (k_own (D - l) 4 l t a _ _ (by omega) (by omega) ?_)⟩
      refine ⟨_, rfl, _, rfl, _, rfl, _, rfl, nil_ok ⟨small' (by simp), ?_⟩⟩
      refine set_DB (C := CC ws D) (e := (l, t, a)) ed4 hnew (by have := hlen i; rw [List.length_append, List.length_map, List.length_take]; omega) ⟨_, rfl, g4.set (Nat.le_refl _), ?_, set_other hne eh4, set_other hna.symm ea4⟩
      rw [set_same ed4, ← take_snoc ha, List.map_append, List.append_assoc]; rfl
    · rintro s h4 ⟨y15, rfl, g4, ed4, eh4, ea4⟩
      refine ⟨_, _, _, rfl, g4, ?_, eh4⟩
      rw [List.length_map, List.take_length] at ed4
      rw [ed4, ← take_snoc hp, List.flatMap_append]
      simp [rowE]
  · rintro s h' ⟨y13, y14, y15, rfl, g2, ed2, eh2⟩
    rw [List.length_map, List.take_length] at ed2
    exact q _ _ _ h' g2 ed2
/-! ### value -/
abbrev wVal : WS := wForR (wCons (wCall gLen (wCons (wV 4) wNil)) wNil) (gNm 16) (wIfS (wOr (wTst (wBin (gEqD true) (wCall g_l_fit (wCons (wV 10) (wCons (wV 5) (wCons (wV 16) wNil)))) (wBin gIxA (wV 4) (wV 16)))) (wNot (Tr.wTru (wCall (g_l_same 3) (wCons (wCall g_fitting (wCons (wV 10) (wCons (wV 5) (wCons (wV 16) wNil)))) (wCons (wBin gIxA (wV 4) (wV 16)) wNil)))))) (wRet (wC (.bl false))) wNext)
theorem value_ok {ws : List Int} (h8 : ws.length ≤ 8) {D : Nat} (hD : D ≤ 3) {rows : List Row} (hr : ∀ r ∈ rows, r.1 ≤ D) (hfit : ∀ v, v < ws.length → ansOf (fitL D v rows) = ws[v]?) {y0 y1 y2 y3 y6 y7 y8 y9 y11 y12 y13 y14 y15 y16 y17 y18 : Option T} {De : EndsT} {h : Hh}
    (q : ∀ y16, De.nx [y0, y1, y2, y3, some (.tup (Li ws)), some (.int (D : Nat)), y6, y7, y8, y9, some (.tup (rows.map rT)), y11, y12, y13, y14, y15, y16, y17, y18] h) :
    wVal De [y0, y1, y2, y3, some (.tup (Li ws)), some (.int (D : Nat)), y6, y7, y8, y9, some (.tup (rows.map rT)), y11, y12, y13, y14, y15, y16, y17, y18] h := by
  have hl : (Li ws).length = ws.length := List.length_map ..
  refine ⟨_, rfl, nil_ok (len_s rfl (nil_ok ⟨_, rfl, by omega, by omega, fun i s h' => ∃ y16, s = [y0, y1, y2, y3, some (.tup (Li ws)), some (.int (D : Nat)), y6, y7, y8, y9, some (.tup (rows.map rT)), y11, y12, y13, y14, y15, y16, y17, y18] ∧ h' = h, ⟨_, rfl, rfl⟩, ?_, ?_⟩))⟩
  · rintro v s h' hv ⟨y16, rfl, rfl⟩
    have hv' : v < ws.length := by
      change v < (Li ws).length at hv
      omega
    have hx := List.getElem?_eq_getElem hv'
    have hf := hfit v hv'
    rw [hx] at hf
    refine ⟨_, rfl, _, rfl, _, rfl, nil_ok (k_fit hD hr rfl ?_)⟩
    rw [hf]
    refine ⟨_, rfl, _, rfl, ix_s (i := v) rfl (li_at hx) (eq_a (neg := true) (a := some ws[v]) (b := some ws[v]) ⟨_, rfl, ite_decN (fun z => absurd rfl z) fun _ => ?_⟩)⟩
    refine ⟨_, rfl, _, rfl, _, rfl, nil_ok (k_fitting hD hr ?_)⟩
    rw [hf]
    exact ⟨_, rfl, _, rfl, ix_s (i := v) rfl (li_at hx) (nil_ok (k_same_a 2 (some ws[v]) ⟨true, rfl, ite_ff ⟨some (.int (v : Nat)), rfl, rfl⟩⟩))⟩
  · rintro s h' ⟨y16, rfl, rfl⟩
    exact q y16
end K60

namespace K60
open PySem PySem.Spec L2 Tr

theorem rows_ne {rows : List Row} {sc : T} (hs : isScr sc = true) {r : List T} : rows.map rT ≠ sc :: r := by
  intro z
  cases rows with
  | nil => cases z
  | cons a rows =>
    rw [List.map_cons] at z
    injection z with z1 _
    rw [← z1] at hs
    cases hs
theorem tab_ne {ns : List Int} {sc : T} {p m : Nat} {h : Hh} (B : Base ns sc p h) {rows : List Row} (e : h[m]? = some (.lst (rows.map rT))) : m ≠ p := B.ne e fun i j k z => rows_ne B.isS (O.lst.inj z)
theorem refs_ne {ns : List Int} {sc : T} {p m D mm : Nat} {As : List Int} {h h' : Hh} (B : Base ns sc p h) {fs : List T} (e : h[m]? = some (.lst fs)) (t : ∀ f ∈ fs, Tab h' D As mm f) : m ≠ p := B.ne e fun i j k z => by
  have z' := O.lst.inj z
  obtain ⟨m', rows, e1, _⟩ := t (.int i) (by rw [z']; simp)
  cases e1
theorem names_ne {ns : List Int} {sc : T} {p m : Nat} {ws : List Int} {h : Hh} (B : Base ns sc p h) (e : h[m]? = some (.lst (Li ws))) : m ≠ p := B.ne e fun i j k z => li_ne B.isS (O.lst.inj z)
/-- a table that somebody drew -/
abbrev wSome : WS := wAsg (wCall g_l_pick (wCons (wV 1) (wCons (wCall g_l_tables (wCons (wCall gMinA (wCons (wV 5) (wCons (wC (.int 2)) wNil))) (wCons (wV 8) (wCons (wC (.int 2)) wNil)))) wNil))) (gNm 17)
abbrev wSame2 : WS := wIfS (wNot (Tr.wTru (wCall (g_l_same 3) (wCons (wCall g_fitting (wCons (wCall gTuple (wCons (wV 17) wNil)) (wCons (wV 5) (wCons (wV 16) wNil)))) (wCons (wCall g_l_fit (wCons (wV 17) (wCons (wV 5) (wCons (wV 16) wNil)))) wNil))))) (wRet (wC (.bl false))) wNext
abbrev wVal2 : WS := wAsg (wCall g_l_draw (wCons (wV 1) (wCons (wV 6) wNil))) (gNm 16)
theorem some_ok {ns : List Int} (hn : ns.length ≤ 1000) {sc : T} {p : Nat} {ws : List Int} (h8 : ws.length ≤ 8) {D : Nat} (hD : D ≤ 3) {nn : Nat} {y0 y2 y3 y4 y7 y9 y10 y11 y12 y13 y14 y15 y16 y17 y18 : Option T} {De : EndsT} {rest : WS} {h : Hh} (B : Base ns sc p h) (en : h[nn]? = some (.lst (Li (ansL ws))))
    (q : ∀ y16 y17 h', Base ns sc p h' → h'[nn]? = some (.lst (Li (ansL ws))) → rest De [y0, some (.ref p), y2, y3, y4, some (.int (D : Nat)), some (.int (2 ^ D : Nat)), y7, some (.ref nn), y9, y10, y11, y12, y13, y14, y15, y16, y17, y18] h') :
    wSeq wSome (wSeq wVal2 (wSeq wSame2 rest)) De [y0, some (.ref p), y2, y3, y4, some (.int (D : Nat)), some (.int (2 ^ D : Nat)), y7, some (.ref nn), y9, y10, y11, y12, y13, y14, y15, y16, y17, y18] h := by
  have hal : (ansL ws).length ≤ 8 := by have := ans_len ws []; simp at this; unfold ansL; omega
  obtain ⟨_, _, hp8⟩ := pow_rng hD
  refine seq_ok (asg_ok ?_)
  refine ⟨_, rfl, cons_ok ?_⟩
  refine ⟨_, rfl, cons_ok (c_ok (nil_ok (min2_ok ?_)))⟩
  have em : min ((D : Nat) : Int) 2 = ((min D 2 : Nat) : Int) := by omega
  rw [em]
  refine ⟨_, rfl, cons_ok (c_ok (nil_ok (k_tables hal (D := min D 2) (by omega) (by decide) (by decide) en fun h1 m fs g1 ef hne hz tf => nil_ok ?_)))⟩
  have B1 := B.gr g1
  refine pick_ok hn hne hz B1 ef (refs_ne B1 ef tf) fun f h2 hf B2 x2 => ?_
  obtain ⟨m', rows, rfl, er, _, pr⟩ := tf f hf
  have er2 := x2 _ _ (tab_ne B1 er) er
  have en2 := x2 _ _ (names_ne B1 (g1 _ _ en)) (g1 _ _ en)
  refine ⟨_, rfl, _, rfl, nil_ok (draw_ok hn (lim := 2 ^ D) (Nat.two_pow_pos D) (by omega) B2 fun v h3 hv B3 x3 => ?_)⟩
  have er3 := x3 _ _ (tab_ne B2 er2) er2
  have en3 := x3 _ _ (names_ne B2 en2) en2
  have hr : ∀ r ∈ rows, r.1 ≤ D := fun r h => by have := (pr r h).1; omega
  refine seq_ok ?_
  refine ⟨_, rfl, nil_ok ⟨_, _, rfl, seqT_ref er3, _, rfl, _, rfl, nil_ok (k_fitting hD hr ?_)⟩⟩
  refine ⟨_, rfl, _, rfl, _, rfl, nil_ok (k_fit hD hr (seqT_ref er3) (nil_ok (k_same_a 2 _ ⟨true, rfl, ite_ff ?_⟩)))⟩
  exact q _ _ h3 B3 en3
/-- no shorter table -/
abbrev wShort : WS := wIfS (wAnd (wTst (wBin gLt (wV 5) (wC (.int 3)))) (wTst (wBin gLt (wCall gLen (wCons (wV 10) wNil)) (wC (.int 4))))) (wFor (wCall g_l_tables (wCons (wV 5) (wCons (wV 8) (wCons (wBin gSub (wCall gLen (wCons (wV 10) wNil)) (wC (.int 1))) wNil)))) (gNm 18) (wIfS (wTst (wBin (gEqD false) (wCall gLen (wCons (wLcR [7] (wCons (wCall gLen (wCons (wV 4) wNil)) wNil) (gNm 7) (wTst (wBin (gEqD true) (wCall g_l_fit (wCons (wV 18) (wCons (wV 5) (wCons (wV 7) wNil)))) (wBin gIxA (wV 4) (wV 7)))) (wV 7)) wNil)) (wC (.int 0)))) (wRet (wC (.bl false))) wNext)) wNext
theorem short_ok {ws : List Int} (h8 : ws.length ≤ 8) {D : Nat} (hD : D ≤ 3) (hp : ws.length ≤ 2 ^ D) {rows : List Row} (hc : rows.length = cst ws D 0 none) (hc1 : 1 ≤ rows.length) {nn : Nat} {y0 y1 y2 y3 y6 y7 y9 y11 y12 y13 y14 y15 y16 y17 y18 : Option T} {De : EndsT} {h : Hh} (en : h[nn]? = some (.lst (Li (ansL ws))))
    (q : ∀ y18 h', Gr h h' → De.nx [y0, y1, y2, y3, some (.tup (Li ws)), some (.int (D : Nat)), y6, y7, some (.ref nn), y9, some (.tup (rows.map rT)), y11, y12, y13, y14, y15, y16, y17, y18] h') :
    wShort De [y0, y1, y2, y3, some (.tup (Li ws)), some (.int (D : Nat)), y6, y7, some (.ref nn), y9, some (.tup (rows.map rT)), y11, y12, y13, y14, y15, y16, y17, y18] h := by
  have hal : (ansL ws).length ≤ 8 := by have := ans_len ws []; simp at this; unfold ansL; omega
  have hl : (Li ws).length = ws.length := List.length_map ..
  have hlr : (rows.map rT).length = rows.length := List.length_map ..
  refine ⟨_, rfl, c_ok (lt_i ⟨_, rfl, ite_b (fun _ => ?_) fun _ => ite_ff (q _ h (Gr.refl h))⟩)⟩
  refine ⟨_, rfl, nil_ok (len_s rfl (c_ok (lt_i ⟨_, rfl, ite_dec (fun h4 => ?_) fun _ => q _ h (Gr.refl h)⟩)))⟩
  rw [hlr] at h4
  refine ⟨_, rfl, _, rfl, cons_ok (bin_ok ?_)⟩
  refine ⟨_, rfl, nil_ok (len_s rfl (c_ok (sub_i (nil_ok ?_))))⟩
  rw [hlr]
  refine k_tables hal hD (by omega) (by omega) en fun h1 m fs g1 ef hne hz tf => ?_
  refine ⟨fs, seqT_ref ef, fun i s h2 => ∃ y18, s = [y0, y1, y2, y3, some (.tup (Li ws)), some (.int (D : Nat)), y6, y7, some (.ref nn), y9, some (.tup (rows.map rT)), y11, y12, y13, y14, y15, y16, y17, y18] ∧ Gr h1 h2, ⟨_, rfl, Gr.refl _⟩, ?_, ?_, ?_⟩
  · rintro i s h2 _ ⟨_, _, g⟩; exact seqT_ref (g _ _ ef)
  · rintro i f s h2 hi ⟨y18, rfl, g2⟩
    obtain ⟨m', R', rfl, er, zr, pr⟩ := (tf f (List.mem_of_getElem? hi)).gr g2
    have hr : ∀ r ∈ R', r.1 ≤ D := fun r h => (pr r h).1
    refine ⟨_, rfl, nil_ok (len_s rfl (nil_ok ⟨_, rfl, by omega, by omega, fun v acc h3 => h3 = h2 ∧ (acc = [] → ∀ u, u < v → ansOf (fitL D u R') = ws[u]?) ∧ acc.length ≤ v, ⟨rfl, fun _ u hu => absurd hu (Nat.not_lt_zero u), Nat.zero_le _⟩, ?_, ?_⟩))⟩
    · rintro v acc h3 hv ⟨rfl, ha, hz'⟩
      have hv' : v < ws.length := by
        change v < (Li ws).length at hv
        omega
      have hx := List.getElem?_eq_getElem hv'
      refine ⟨_, rfl, _, rfl, _, rfl, nil_ok (k_fit hD hr (seqT_ref er) ?_)⟩
      refine ⟨_, rfl, _, rfl, ix_s (i := v) rfl (li_at hx) (eq_a (neg := true) (b := some ws[v]) ⟨_, rfl, ite_decN (fun hne => ?_) fun he => ?_⟩)⟩
      · exact ⟨_, rfl, small (by omega), rfl, fun z => absurd z (by simp), by simp; omega⟩
      · refine ⟨rfl, fun z u hu => ?_, by omega⟩
        by_cases e : u = v
        · subst e; rw [hx]; exact he
        · exact ha z u (by omega)
    · rintro acc h3 ⟨rfl, ha, hz'⟩
      have hacc : acc ≠ [] := fun z => by
        have := no_shorter (D := D) hp (fun r h => ⟨(pr r h).1, mem_ans.mp (pr r h).2⟩) fun v hv => ha z v (by
          show v < (Li ws).length
          omega)
        rw [← hc] at this
        omega
      refine nil_ok (len_s (seqT_ref (get_new _ _)) (c_ok (eq_i (neg := false) ⟨_, rfl, ite_dec (fun z => ?_) fun _ => ?_⟩)))
      · have : acc.length = 0 := by exact_mod_cast z
        exact absurd (List.length_eq_zero_iff.mp this) hacc
      · exact ⟨_, rfl, g2.trans (gr_new _ _)⟩
  · rintro s h2 ⟨y18, rfl, g2⟩
    exact q _ h2 (g1.trans g2)
end K60

namespace K60
open PySem PySem.Spec L2 Tr

theorem nm_ok {i : Nat} {t : T} {s : Sl} {h : Hh} {Q : Sl → Hh → Prop} (q : Q (s.set i (some t)) h) : gNm i t s h Q := q
theorem wnext_ok {D : EndsT} {s : Sl} {h : Hh} (q : D.nx s h) : wNext D s h := q
theorem dct_ok {s : Sl} {h : Hh} {Q : VKT} (q : Q (.ref h.length) (h ++ [.dict []])) : wDct s h Q := q
theorem eqv_rows : ∀ R : List Row, PyData.eqvAll (dTs (R.map rT)) (dTs (R.map rT)) = true
  | [] => rfl
  | r :: R => by
    have ih := eqv_rows R
    rw [List.map_cons]
    show PyData.eqvAll (.tuple [.int _, .int _, .int _] :: dTs (R.map rT)) (.tuple [.int _, .int _, .int _] :: dTs (R.map rT)) = true
    simp [PyData.eqvAll, PyData.eqv, ih]
theorem eq_rows {R : List Row} {n m : Nat} {h : Hh} {Q : VKT} (e1 : h[n]? = some (.lst (R.map rT))) (e2 : h[m]? = some (.lst (R.map rT))) (q : Q (.bl false) h) : gEqD true (.ref n) (.ref m) h Q := by
  have d : ∀ k, h[k]? = some (.lst (R.map rT)) → datO h (.ref k) = some (.list (dTs (R.map rT))) := fun k e => by
    show (seqO h[k]?).bind _ = _
    rw [e]
    show (if pureTs (R.map rT) = true then some (PyData.list (dTs (R.map rT))) else none) = _
    rw [if_pos (rows_pure R)]
  have sh : SeqAt.shaped (.list (dTs (R.map rT))) = true := by
    unfold SeqAt.shaped
    rw [Bool.and_eq_true]
    have c : ∀ R : List Row, PyData.canLayAll0 (dTs (R.map rT)) = true := by
      intro R
      induction R with
      | nil => rfl
      | cons r R ih =>
        rw [List.map_cons]
        show PyData.canLayAll0 (.tuple [.int _, .int _, .int _] :: dTs (R.map rT)) = true
        simp [PyData.canLayAll0, PyData.canLay0, ih]
    have dp : ∀ R : List Row, PyData.depthAll (dTs (R.map rT)) ≤ 2 := by
      intro R
      induction R with
      | nil => decide
      | cons r R ih =>
        rw [List.map_cons]
        show PyData.depthAll (.tuple [.int _, .int _, .int _] :: dTs (R.map rT)) ≤ 2
        simp [PyData.depthAll, PyData.depth]
        omega
    refine ⟨c R, decide_eq_true ?_⟩
    have := dp R
    simp [PyData.depth]
    omega
  refine ⟨_, _, d n e1, d m e2, sh, sh, ?_⟩
  have e : PyData.eqv (.list (dTs (R.map rT))) (.list (dTs (R.map rT))) = true := by
    rw [PyData.eqv]; exact eqv_rows R
  rw [e]
  exact q

/-! ### the law -/
theorem k_law {ns : List Int} (hn : ns.length ≤ 1000) {sc : T} (hsx : isScr sc = true) {h : Hh} {Q : VKT} (hx : seqT h sc = some (Li ns)) (q : ∀ h', Q (.bl true) h') : g_law [sc] h Q := by
  refine ⟨rfl, _, rfl, nil_ok (k_pool hn hx fun j => ?_)⟩
  have B0 : Base ns sc h.length (h ++ [.lst [sc, .int 0, .int j, .int 0]]) := ⟨⟨0, j, 0, get_new _ _⟩, seqT_gr (gr_new _ _) hx, hsx⟩
  generalize h ++ [.lst [sc, .int 0, .int j, .int 0]] = h0 at *
  generalize h.length = p at *
  refine ⟨3, rfl, by decide, by decide, fun t s h' => ∃ y2 y3 y4 y5 y6 y7 y8 y9 y10 y11 y12 y13 y14 y15 y16 y17 y18 : Option T, s = [some sc, some (.ref p), y2, y3, y4, y5, y6, y7, y8, y9, y10, y11, y12, y13, y14, y15, y16, y17, y18] ∧ Base ns sc p h',
    ⟨none, none, none, none, none, none, none, none, none, none, none, none, none, none, none, none, none, rfl, B0⟩, ?_, ?_⟩
  · rintro t s h1 ht ⟨y2, y3, y4, y5, y6, y7, y8, y9, y10, y11, y12, y13, y14, y15, y16, y17, y18, rfl, B⟩
    -- next, many
    refine ⟨_, rfl, nil_ok (next_ok hn B fun h2 B2 _ => ?_)⟩
    try dsimp only
    refine seq_ok ?_
    refine asg_ok (bin_ok (c_ok ?_))
    refine ⟨_, rfl, cons_ok (c_ok (nil_ok (draw_ok hn (lim := 3) (by decide) (by decide) B2 fun v h3 hv B3 _ => add_i ?_)))⟩
    have e1 : (1 : Int) + ((v : Nat) : Int) = ((v + 1 : Nat) : Int) := by omega
    rw [e1]
    refine nm_ok ?_
    try dsimp only
    refine seq_ok ?_
    refine (wished_ok hn (many := v + 1) (by omega) (by omega) B3 fun ws h4 hne h8 B4 => ?_)
    have hl : (Li ws).length = ws.length := List.length_map ..
    have hal : (ansL ws).length ≤ 8 := by have := ans_len ws []; simp at this; unfold ansL; omega
    try dsimp only
    refine seq_ok ?_
    refine asg_ok (c_ok (nm_ok ?_))
    try dsimp only
    refine seq_ok ?_
    refine asg_ok (c_ok (nm_ok ?_))
    try dsimp only
    refine seq_ok ?_
    refine depth_ok h8 fun y7 => ?_
    have hD := bits_le3 ws.length
    have hp := len_pow h8
    obtain ⟨D, eD⟩ : ∃ D, D = bitsN ws.length := ⟨_, rfl⟩
    rw [← eD] at hD hp ⊢
    -- bits_for, power_of
    try dsimp only
    refine seq_ok ?_
    refine ⟨_, rfl, nil_ok (len_s rfl (nil_ok (k_bits (by omega) ?_)))⟩
    rw [hl, ← eD]
    refine ⟨_, rfl, nil_ok (k_power (n := D) (by omega) (nil_ok ⟨small' (by simp), ?_⟩))⟩
    refine ⟨_, rfl, _, rfl, nil_ok ⟨small' (by simp), nil_ok (k_same_l 1 (xs := [((D : Nat) : Int), ((2 ^ D : Nat) : Int)]) (by simp) ((gr_new _ _) _ _ (get_new _ _)) (get_new _ _) ⟨true, rfl, ite_ff ?_⟩)⟩⟩
    have B5 := B4.gr ((gr_new h4 (O.lst [T.int (D : Nat), T.int (2 ^ D : Nat)])).trans (gr_new _ (O.lst [T.int (D : Nat), T.int (2 ^ D : Nat)])))
    generalize h4 ++ [O.lst [T.int (D : Nat), T.int (2 ^ D : Nat)]] ++ [O.lst [T.int (D : Nat), T.int (2 ^ D : Nat)]] = h5 at *
    -- names
    refine wnext_ok ?_
    try dsimp only
    refine seq_ok ?_
    refine asg_ok ⟨small' (by simp), nm_ok ?_⟩
    try dsimp only
    refine seq_ok ?_
    refine names_ok h8 (get_new _ _) (gr_new _ _) fun y9 h6 nn g6 en => ?_
    have B6 := B5.gr g6
    -- rows, costs
    try dsimp only
    refine seq_ok ?_
    refine asg_ok ⟨_, rfl, nil_ok (k_least (by omega) hne eD fun h7 nc R SR g7 hnc ec tree perm hR hsort => gTp2 ?_)⟩
    have B7 := B6.gr g7
    have en7 := g7 _ _ en
    have hSR : SR.length = R.length := perm.length_eq
    have hrows : ∀ r ∈ SR, r.1 ≤ D := fun r hr => (tree_under tree (Nat.le_refl _) r (perm.mem_iff.mp hr)).2.1
    have hright : ∀ u, u < ws.length → Right ws D u none SR := fun u hu => by
      rcases tree_right hu tree (Nat.le_refl _) (Nat.div_eq_of_lt (by omega)) with ⟨a, b⟩ | ⟨r0, m, f, e, k⟩
      · rw [List.getElem?_eq_getElem hu] at b; cases b
      · exact .inr ⟨r0, perm.mem_iff.mpr m, f, e, fun r hr => k r (perm.mem_iff.mp hr)⟩
    have hfit : ∀ u, u < ws.length → ansOf (fitL D u SR) = ws[u]? := fun u hu => right_fit (hright u hu) hu
    have hc : SR.length = cst ws D 0 none := by rw [hSR]; exact tree_len tree
    have hpos : 0 < ws.length := List.length_pos_iff.mpr hne
    have hc1 : 1 ≤ SR.length := by
      rcases hright 0 hpos with ⟨a, b⟩ | ⟨r0, m, _⟩
      · rw [List.getElem?_eq_getElem hpos] at b; cases b
      · exact List.length_pos_of_mem m
    -- answers, sorted
    try dsimp only
    refine seq_ok ?_
    refine ⟨_, rfl, nil_ok (k_answers (by omega) ⟨_, rfl, nil_ok (k_same_l 1 (xs := ansL ws) (by omega) (get_new _ _) ((gr_new _ _) _ _ en7) ⟨true, rfl, ite_ff ?_⟩)⟩)⟩
    have g8 := gr_new h7 (O.lst (Li (ansL ws)))
    generalize h7 ++ [O.lst (Li (ansL ws))] = h8' at *
    refine ⟨_, rfl, nil_ok ⟨_, SR.map rT, rfl, rfl, _, rfl, nil_ok (sorted_ok (R := SR) (by omega) rfl ?_)⟩⟩
    rw [hsort]
    refine eq_rows ((gr_new _ _) _ _ (get_new _ _)) (get_new _ _) ⟨_, rfl, ite_ff ?_⟩
    have g9 := g8.trans ((gr_new h8' (O.lst (SR.map rT))).trans (gr_new _ (O.lst (SR.map rT))))
    generalize h8' ++ [O.lst (SR.map rT)] ++ [O.lst (SR.map rT)] = h9 at *
    have en9 := g9 _ _ en7
    have ec9 := g9 _ _ ec
    have B9 := B7.gr g9
    -- due
    refine wnext_ok ?_
    try dsimp only
    refine seq_ok ?_
    refine asg_ok (dct_ok (nm_ok ?_))
    try dsimp only
    refine seq_ok ?_
    refine due_ok h8 hD (h0 := h9) (gr_new _ _) en9 (get_new _ _) fun y13 y14 y15 h10 g10 ed => ?_
    have en10 := g10 _ _ en9
    have ec10 := g10 _ _ ec9
    have B10 := B9.gr g10
    have hncd : nc ≠ h9.length := by
      have := (List.getElem?_eq_some_iff.mp ec9).1
      omega
    try dsimp only
    refine seq_ok ?_
    refine ⟨_, rfl, _, rfl, nil_ok (k_same_d 1 (due_len hD) (fun e he => due_all he) hncd ec10 ed ⟨true, rfl, ite_ff ?_⟩)⟩
    refine ⟨_, rfl, nil_ok (k_cost (by omega) hne eD fun h11 nt g11 hnt et => ⟨_, rfl, nil_ok (k_same_d 1 (C := CC ws D) (E1 := allE ws D) (due_len hD) (fun e he => due_all he) ?_ et (g11 _ _ ed) ⟨true, rfl, ite_ff ?_⟩)⟩)⟩
    · have := (List.getElem?_eq_some_iff.mp ed).1
      omega
    refine ⟨_, rfl, nil_ok (len_s rfl (bin_ok ⟨_, rfl, cons_ok (c_ok (cons_ok (c_ok (cons_ok (c_ok (nil_ok ⟨small' (by simp), ix_DB (C := CC ws D) (e := (0, 0, none)) (.inl (g11 _ _ ed)) (all_due (Nat.zero_le _) (by simp) List.mem_cons_self) ?_⟩))))))⟩))⟩
    have hcc : CC ws D (0, 0, none) = SR.length := by rw [hc]; rfl
    rw [hcc, List.length_map]
    refine eq_i (neg := true) ⟨_, rfl, ite_decN (fun z => absurd rfl z) fun _ => ?_⟩
    have B11 := B10.gr g11
    have en11 := g11 _ _ en10
    -- every value, a table, no shorter table
    refine wnext_ok ?_
    try dsimp only
    refine seq_ok ?_
    refine value_ok h8 hD hrows hfit fun y16 => ?_
    refine some_ok hn h8 hD B11 en11 fun y16 y17 h12 B12 en12 => ?_
    refine short_ok h8 hD hp hc hc1 en12 fun y18 h13 g13 => ?_
    exact ⟨_, _, _, _, _, _, _, _, _, _, _, _, _, _, _, _, _, rfl, B12.gr g13⟩
  · rintro s h' _
    exact q h'
end K60

/-! The end: what the top has written, and the law's own head. -/
namespace K60
open PySem PySem.Spec L2 Tr
def spLaw (K : PySem.W.Frag) : Sp := fun vs H Q _ => ∃ (a : Addr) (ns : List Int), vs = [.ref a] ∧ SqL K H a (ns.map V.int) ∧ ns.length ≤ 63 ∧ ∀ H', Q (.bl true) H'
theorem law_sp {K : PySem.W.Frag} {w : World} : ∀ vs H Q E, spLaw K vs H Q E → spT K w g_law vs H Q E := by
  rintro vs H Q E ⟨a, ns, rfl, hs, hl, q⟩
  rcases hs with (h | ⟨ob, h⟩) | h
  · exact ⟨[a], [.lst (Li ns)], [.ref 0], fun t _ => t = .bl true, ⟨rfl, by simp, fun i o b e1 e2 => by
      cases i with
      | zero => cases e1; cases e2; exact ⟨_, h, RTs.of_ints ns⟩
      | succ i => cases e1⟩, .cons (.ref rfl) .nil, k_law (by omega) rfl rfl (fun _ => rfl), fun ρ2 H2 v t h2 _ _ r e => by subst e; cases r; exact q H2⟩
  · exact ⟨[a], [.rol (Li ns)], [.ref 0], fun t _ => t = .bl true, ⟨rfl, by simp, fun i o b e1 e2 => by
      cases i with
      | zero => cases e1; cases e2; exact ⟨ob, _, h, RTs.of_ints ns⟩
      | succ i => cases e1⟩, .cons (.ref rfl) .nil, k_law (by omega) rfl rfl (fun _ => rfl), fun ρ2 H2 v t h2 _ _ r e => by subst e; cases r; exact q H2⟩
  · exact ⟨[], [], [.kls ns], fun t _ => t = .bl true, ⟨rfl, List.nodup_nil, fun i o b e1 e2 => by cases e1⟩, .cons (.kls h) .nil, k_law (by omega) rfl rfl (fun _ => rfl), fun ρ2 H2 v t h2 _ _ r e => by subst e; cases r; exact q H2⟩
section
variable {P : Program} {w : World} {K : PySem.W.Frag} {mg : Str → Option Value} {base : Heap}

theorem ok_law {f : Addr} {fd : FuncData} (F : Fun K "law" "law" s_law f fd) (hm : mg "law" = some (.ref f)) (B : Blt mg) (h_l_pool : Has P w K mg base "_law_pool" ["script"] 3 g_l_pool) (h_l_next : Has P w K mg base "_law_next" ["pool"] 3 g_l_next) (h_l_draw : Has P w K mg base "_law_draw" ["pool", "limit"] 3 g_l_draw) (h_power_of : Has P w K mg base "power_of" ["bits"] 1 g_power_of) (h_bits_for : Has P w K mg base "bits_for" ["size"] 1 g_bits_for) (h_l_same : Has P w K mg base "_law_same" ["answer", "due"] 3 (g_l_same 3)) (h_least_prefixes : Has P w K mg base "least_prefixes" ["wished"] 3 g_least_prefixes) (h_answers_of : Has P w K mg base "answers_of" ["wished"] 1 g_answers_of) (h_l_cost_own : Has P w K mg base "_law_cost_own" ["wished", "depth", "length", "head", "above"] 5 (g_l_cost_own 5)) (h_l_heads : Has P w K mg base "_law_heads" ["depth"] 1 g_l_heads) (h_cost_table : Has P w K mg base "cost_table" ["wished"] 2 g_cost_table) (h_l_fit : Has P w K mg base "_law_fit" ["rows", "depth", "value"] 1 g_l_fit) (h_fitting : Has P w K mg base "fitting" ["rows", "depth", "value"] 2 g_fitting) (h_l_tables : Has P w K mg base "_law_tables" ["depth", "answers", "most"] 2 g_l_tables) (h_l_pick : Has P w K mg base "_law_pick" ["pool", "options"] 4 g_l_pick) : FnOk P w K mg base CX0 6 f fd ["script"] (spT K w g_law) := by
  have h_l_pool := h_l_pool.mono (show 3 ≤ 5 by decide)
  have h_l_next := h_l_next.mono (show 3 ≤ 5 by decide)
  have h_l_draw := h_l_draw.mono (show 3 ≤ 5 by decide)
  have h_power_of := h_power_of.mono (show 1 ≤ 5 by decide)
  have h_bits_for := h_bits_for.mono (show 1 ≤ 5 by decide)
  have h_l_same := h_l_same.mono (show 3 ≤ 5 by decide)
  have h_least_prefixes := h_least_prefixes.mono (show 3 ≤ 5 by decide)
  have h_answers_of := h_answers_of.mono (show 1 ≤ 5 by decide)
  have h_l_cost_own := h_l_cost_own.mono (show 5 ≤ 5 by decide)
  have h_l_heads := h_l_heads.mono (show 1 ≤ 5 by decide)
  have h_cost_table := h_cost_table.mono (show 2 ≤ 5 by decide)
  have h_l_fit := h_l_fit.mono (show 1 ≤ 5 by decide)
  have h_fitting := h_fitting.mono (show 2 ≤ 5 by decide)
  have h_l_tables := h_l_tables.mono (show 2 ≤ 5 by decide)
  have h_l_pick := h_l_pick.mono (show 4 ≤ 5 by decide)
  refine fn_ok F sc_law 1 19 rfl rfl fun cdv A outer s H E hr => ?_
  have hu := hr.units
  have S := sc_law
  exact (pxss_cons (pxs_set (i := 1) S.nd rfl (by first | exact .inl rfl | exact .inr rfl) (px_fnH h_l_pool hr (by rfl) (pxa_cons (px_var (pv 0)) pxa_nil)))
    (pxss_cons (pxs_range1 PassesOwn.never rfl (by rfl) B.range (pxa_cons px_int pxa_nil) (pxg_name (pg_name (i := 2) S.nd rfl (by first | exact .inl rfl | exact .inr rfl))) (pxss_cons (pxs_expr (px_fnH h_l_next hr (by rfl) (pxa_cons (px_var (pv 1)) pxa_nil)))
    (pxss_cons (pxs_set (i := 3) S.nd rfl (by first | exact .inl rfl | exact .inr rfl) (px_op ox_add px_int (px_fnH h_l_draw hr (by rfl) (pxa_cons (px_var (pv 1)) (pxa_cons px_int pxa_nil)))))
    (pxss_cons (pxs_set (i := 4) S.nd rfl (by first | exact .inl rfl | exact .inr rfl) (px_callTy cx_tuple (by rfl) B.tuple PyProof.Rows.boot_tuple (pxa_cons (px_lcR (own := [(Str.ofString "k", 7)]) rfl S.nd (by rfl) B.range (pxa_cons (px_op ox_add px_int (px_fnH h_l_draw hr (by rfl) (pxa_cons (px_var (pv 1)) (pxa_cons px_int pxa_nil)))) pxa_nil) (show BlkOk N_law (defScope s_law) _ [(Str.ofString "k", 7)] from ⟨rfl, by decide +kernel, by decide +kernel, by decide +kernel, by decide +kernel⟩) (fun _ _ _ _ _ => (pg_name (i := 7) S.nd rfl (by first | exact .inl rfl | exact .inr rfl))) (simg_name (by decide)) (fun _ _ _ _ _ => pxts_nil) (fun _ _ _ _ _ => (px_op ox_add px_int (px_fnH h_l_draw hr (by rfl) (pxa_cons (px_var (pv 1)) (pxa_cons (px_var (pv 3)) pxa_nil)))))) pxa_nil)))
    (pxss_cons (pxs_set (i := 5) S.nd rfl (by first | exact .inl rfl | exact .inr rfl) px_int)
    (pxss_cons (pxs_set (i := 6) S.nd rfl (by first | exact .inl rfl | exact .inr rfl) px_int)
    (pxss_cons (pxs_range1 PassesOwn.never rfl (by rfl) B.range (pxa_cons px_int pxa_nil) (pxg_name (pg_name (i := 7) S.nd rfl (by first | exact .inl rfl | exact .inr rfl))) (pxss_one (pxs_if (pxt_cmp ox_ltX (px_var (pv 6)) (px_callB cx_len (by rfl) B.len PySem.boot_len (pxa_cons (px_var (pv 4)) pxa_nil)) (nomark _)) (pxss_cons (pxs_set (i := 5) S.nd rfl (by first | exact .inl rfl | exact .inr rfl) (px_op ox_add (px_var (pv 5)) px_int))
    (pxss_one (pxs_set (i := 6) S.nd rfl (by first | exact .inl rfl | exact .inr rfl) (px_op ox_mulX px_int (px_var (pv 6)))))) pxss_nil)))
    (pxss_cons (pxs_if (pxt_not (pxt_tru (px_fnH h_l_same hr (by rfl) (pxa_cons (px_lst (pxa_cons (px_fnH h_bits_for hr (by rfl) (pxa_cons (px_callB cx_len (by rfl) B.len PySem.boot_len (pxa_cons (px_var (pv 4)) pxa_nil)) pxa_nil)) (pxa_cons (px_fnH h_power_of hr (by rfl) (pxa_cons (px_var (pv 5)) pxa_nil)) pxa_nil))) (pxa_cons (px_lst (pxa_cons (px_var (pv 5)) (pxa_cons (px_var (pv 6)) pxa_nil))) pxa_nil))) (fun _ => rfl))) (pxss_one (pxs_ret px_bl)) pxss_nil)
    (pxss_cons (pxs_set (i := 8) S.nd rfl (by first | exact .inl rfl | exact .inr rfl) (px_lst pxa_nil))
    (pxss_cons (pxs_for PassesOwn.never rfl (px_var (pv 4)) (pxg_name (pg_name (i := 9) S.nd rfl (by first | exact .inl rfl | exact .inr rfl))) (pxss_one (pxs_set (i := 8) S.nd rfl (by first | exact .inl rfl | exact .inr rfl) (px_if (pxt_cmp (ox_in hu) (px_var (pv 9)) (px_var (pv 8)) rfl) (px_var (pv 8)) (px_op ox_add (px_var (pv 8)) (px_lst (pxa_cons (px_var (pv 9)) pxa_nil)))))))
    (pxss_cons (pxs_asg (px_fnH h_least_prefixes hr (by rfl) (pxa_cons (px_var (pv 4)) pxa_nil)) (pxg_tup rfl (pxgs_cons (pxg_name (pg_name (i := 10) S.nd rfl (by first | exact .inl rfl | exact .inr rfl))) (pxgs_cons (pxg_name (pg_name (i := 11) S.nd rfl (by first | exact .inl rfl | exact .inr rfl))) pxgs_nil))))
    (pxss_cons (pxs_if (PXW.pxt (pxw_or (pxt_not (pxt_tru (px_fnH h_l_same hr (by rfl) (pxa_cons (px_fnH h_answers_of hr (by rfl) (pxa_cons (px_var (pv 4)) pxa_nil)) (pxa_cons (px_var (pv 8)) pxa_nil))) (fun _ => rfl))) (pxw_or1 (pxt_cmp (ox_ne hu) (px_callTy cx_list (by rfl) B.list PyProof.Rows.boot_list (pxa_cons (px_var (pv 10)) pxa_nil)) (px_callB (cx_sorted hu) (by rfl) B.sorted PyProof.Rows.boot_sorted (pxa_cons (px_var (pv 10)) pxa_nil)) (nomark _))))) (pxss_one (pxs_ret px_bl)) pxss_nil)
    (pxss_cons (pxs_set (i := 12) S.nd rfl (by first | exact .inl rfl | exact .inr rfl) px_dnew)
    (pxss_cons (pxs_for PassesOwn.never rfl (px_fnH h_l_heads hr (by rfl) (pxa_cons (px_var (pv 5)) pxa_nil)) (pxg_tup rfl (pxgs_cons (pxg_name (pg_name (i := 13) S.nd rfl (by first | exact .inl rfl | exact .inr rfl))) (pxgs_cons (pxg_name (pg_name (i := 14) S.nd rfl (by first | exact .inl rfl | exact .inr rfl))) pxgs_nil))) (pxss_one (pxs_for PassesOwn.never rfl (px_op ox_add (px_lst (pxa_cons px_non pxa_nil)) (px_var (pv 8))) (pxg_name (pg_name (i := 15) S.nd rfl (by first | exact .inl rfl | exact .inr rfl))) (pxss_one (pxs_asg (px_fnH h_l_cost_own hr (by rfl) (pxa_cons (px_var (pv 4)) (pxa_cons (px_var (pv 5)) (pxa_cons (px_var (pv 13)) (pxa_cons (px_var (pv 14)) (pxa_cons (px_var (pv 15)) pxa_nil)))))) (pxg_sub (px_var (pv 12)) (px_tup (pxa_cons (px_var (pv 13)) (pxa_cons (px_var (pv 14)) (pxa_cons (px_var (pv 15)) pxa_nil)))) (sx_any hu)))))))
    (pxss_cons (pxs_if (PXW.pxt (pxw_or (pxt_not (pxt_tru (px_fnH h_l_same hr (by rfl) (pxa_cons (px_var (pv 11)) (pxa_cons (px_var (pv 12)) pxa_nil))) (fun _ => rfl))) (pxw_or (pxt_not (pxt_tru (px_fnH h_l_same hr (by rfl) (pxa_cons (px_fnH h_cost_table hr (by rfl) (pxa_cons (px_var (pv 4)) pxa_nil)) (pxa_cons (px_var (pv 12)) pxa_nil))) (fun _ => rfl))) (pxw_or1 (pxt_cmp (ox_ne hu) (px_callB cx_len (by rfl) B.len PySem.boot_len (pxa_cons (px_var (pv 10)) pxa_nil)) (px_ix (ix_any hu) (px_var (pv 12)) (px_tup (pxa_cons px_int (pxa_cons px_int (pxa_cons px_non pxa_nil)))) (fun _ _ => rfl)) (nomark _)))))) (pxss_one (pxs_ret px_bl)) pxss_nil)
    (pxss_cons (pxs_range1 PassesOwn.never rfl (by rfl) B.range (pxa_cons (px_callB cx_len (by rfl) B.len PySem.boot_len (pxa_cons (px_var (pv 4)) pxa_nil)) pxa_nil) (pxg_name (pg_name (i := 16) S.nd rfl (by first | exact .inl rfl | exact .inr rfl))) (pxss_one (pxs_if (PXW.pxt (pxw_or (pxt_cmp (ox_ne hu) (px_fnH h_l_fit hr (by rfl) (pxa_cons (px_var (pv 10)) (pxa_cons (px_var (pv 5)) (pxa_cons (px_var (pv 16)) pxa_nil)))) (px_ix (ix_any hu) (px_var (pv 4)) (px_var (pv 16)) (fun _ _ => rfl)) (nomark _)) (pxw_or1 (pxt_not (pxt_tru (px_fnH h_l_same hr (by rfl) (pxa_cons (px_fnH h_fitting hr (by rfl) (pxa_cons (px_var (pv 10)) (pxa_cons (px_var (pv 5)) (pxa_cons (px_var (pv 16)) pxa_nil)))) (pxa_cons (px_ix (ix_any hu) (px_var (pv 4)) (px_var (pv 16)) (fun _ _ => rfl)) pxa_nil))) (fun _ => rfl)))))) (pxss_one (pxs_ret px_bl)) pxss_nil)))
    (pxss_cons (pxs_set (i := 17) S.nd rfl (by first | exact .inl rfl | exact .inr rfl) (px_fnH h_l_pick hr (by rfl) (pxa_cons (px_var (pv 1)) (pxa_cons (px_fnH h_l_tables hr (by rfl) (pxa_cons (px_callB (cx_minA rfl) (by rfl) B.min PyProof.Rows.boot_min (pxa_cons (px_var (pv 5)) (pxa_cons px_int pxa_nil))) (pxa_cons (px_var (pv 8)) (pxa_cons px_int pxa_nil)))) pxa_nil))))
    (pxss_cons (pxs_set (i := 16) S.nd rfl (by first | exact .inl rfl | exact .inr rfl) (px_fnH h_l_draw hr (by rfl) (pxa_cons (px_var (pv 1)) (pxa_cons (px_var (pv 6)) pxa_nil))))
    (pxss_cons (pxs_if (pxt_not (pxt_tru (px_fnH h_l_same hr (by rfl) (pxa_cons (px_fnH h_fitting hr (by rfl) (pxa_cons (px_callTy cx_tuple (by rfl) B.tuple PyProof.Rows.boot_tuple (pxa_cons (px_var (pv 17)) pxa_nil)) (pxa_cons (px_var (pv 5)) (pxa_cons (px_var (pv 16)) pxa_nil)))) (pxa_cons (px_fnH h_l_fit hr (by rfl) (pxa_cons (px_var (pv 17)) (pxa_cons (px_var (pv 5)) (pxa_cons (px_var (pv 16)) pxa_nil)))) pxa_nil))) (fun _ => rfl))) (pxss_one (pxs_ret px_bl)) pxss_nil)
    (pxss_one (pxs_if (PXW.pxt (pxw_and (pxt_cmp ox_ltX (px_var (pv 5)) px_int (nomark _)) (pxw_and1 (pxt_cmp ox_ltX (px_callB cx_len (by rfl) B.len PySem.boot_len (pxa_cons (px_var (pv 10)) pxa_nil)) px_int (nomark _))))) (pxss_one (pxs_for PassesOwn.never rfl (px_fnH h_l_tables hr (by rfl) (pxa_cons (px_var (pv 5)) (pxa_cons (px_var (pv 8)) (pxa_cons (px_op ox_subX (px_callB cx_len (by rfl) B.len PySem.boot_len (pxa_cons (px_var (pv 10)) pxa_nil)) px_int) pxa_nil)))) (pxg_name (pg_name (i := 18) S.nd rfl (by first | exact .inl rfl | exact .inr rfl))) (pxss_one (pxs_if (pxt_cmp (ox_eq hu) (px_callB cx_len (by rfl) B.len PySem.boot_len (pxa_cons (px_lcR (own := [(Str.ofString "k", 7)]) rfl S.nd (by rfl) B.range (pxa_cons (px_callB cx_len (by rfl) B.len PySem.boot_len (pxa_cons (px_var (pv 4)) pxa_nil)) pxa_nil) (show BlkOk N_law (defScope s_law) _ [(Str.ofString "k", 7)] from ⟨rfl, by decide +kernel, by decide +kernel, by decide +kernel, by decide +kernel⟩) (fun _ _ _ _ _ => (pg_name (i := 7) S.nd rfl (by first | exact .inl rfl | exact .inr rfl))) (simg_name (by decide)) (fun _ _ _ _ _ => (pxts_one (pxt_cmp (ox_ne hu) (px_fnH h_l_fit hr (by rfl) (pxa_cons (px_var (pv 18)) (pxa_cons (px_var (pv 5)) (pxa_cons (px_var (pv 7)) pxa_nil)))) (px_ix (ix_any hu) (px_var (pv 4)) (px_var (pv 7)) (fun _ _ => rfl)) (nomark _)))) (fun _ _ _ _ _ => (px_var (pv 7)))) pxa_nil)) px_int (nomark _)) (pxss_one (pxs_ret px_bl)) pxss_nil)))) pxss_nil)))))))))))))))))))))
    (pxss_one (pxs_ret px_bl))))

end
theorem all_mk {l : PySem.W.OpenLaw} {w : World} {K : PySem.W.Frag} {h : Heap} {mg : Str → Option Value} {fa : Addr} (X : K.In h) (G : h.Ns mainGlobals mg) (hfa : mg "law" = some (.ref fa))
    {od1 an1 : Option Addr} {sl1 : Array (Option Value)} {oc1 kV1 dc1 pm1 cd1 ct1 : Value} {f1 : Addr}
    {od2 an2 : Option Addr} {sl2 : Array (Option Value)} {oc2 kV2 dc2 pm2 cd2 ct2 : Value} {f2 : Addr}
    {od3 an3 : Option Addr} {sl3 : Array (Option Value)} {oc3 kV3 dc3 pm3 cd3 ct3 : Value} {f3 : Addr}
    {od4 an4 : Option Addr} {sl4 : Array (Option Value)} {oc4 kV4 dc4 pm4 cd4 ct4 : Value} {f4 : Addr}
    {od5 an5 : Option Addr} {sl5 : Array (Option Value)} {oc5 kV5 dc5 pm5 cd5 ct5 : Value} {f5 : Addr}
    {od6 an6 : Option Addr} {sl6 : Array (Option Value)} {oc6 kV6 dc6 pm6 cd6 ct6 : Value} {f6 : Addr}
    {od7 an7 : Option Addr} {sl7 : Array (Option Value)} {oc7 kV7 dc7 pm7 cd7 ct7 : Value} {f7 : Addr}
    {od8 an8 : Option Addr} {sl8 : Array (Option Value)} {oc8 kV8 dc8 pm8 cd8 ct8 : Value} {f8 : Addr}
    {od9 an9 : Option Addr} {sl9 : Array (Option Value)} {oc9 kV9 dc9 pm9 cd9 ct9 : Value} {f9 : Addr}
    {od10 an10 : Option Addr} {sl10 : Array (Option Value)} {oc10 kV10 dc10 pm10 cd10 ct10 : Value} {f10 : Addr}
    {od11 an11 : Option Addr} {sl11 : Array (Option Value)} {oc11 kV11 dc11 pm11 cd11 ct11 : Value} {f11 : Addr}
    {od12 an12 : Option Addr} {sl12 : Array (Option Value)} {oc12 kV12 dc12 pm12 cd12 ct12 : Value} {f12 : Addr}
    {od13 an13 : Option Addr} {sl13 : Array (Option Value)} {oc13 kV13 dc13 pm13 cd13 ct13 : Value} {f13 : Addr}
    {od14 an14 : Option Addr} {sl14 : Array (Option Value)} {oc14 kV14 dc14 pm14 cd14 ct14 : Value} {f14 : Addr}
    {od15 an15 : Option Addr} {sl15 : Array (Option Value)} {oc15 kV15 dc15 pm15 cd15 ct15 : Value} {f15 : Addr}
    {od16 an16 : Option Addr} {sl16 : Array (Option Value)} {oc16 kV16 dc16 pm16 cd16 ct16 : Value} {f16 : Addr}
    {od17 an17 : Option Addr} {sl17 : Array (Option Value)} {oc17 kV17 dc17 pm17 cd17 ct17 : Value} {f17 : Addr}
    {od18 an18 : Option Addr} {sl18 : Array (Option Value)} {oc18 kV18 dc18 pm18 cd18 ct18 : Value} {f18 : Addr}
    (a1 : PySem.W.nsIn K mainGlobals "bits_for" = some (some (.ref f1))) (l1 : K.lookup f1 = some ⟨oc1, od1, .func (PySem.W.fnOf "bits_for" "bits_for" (defArgs s_bits_for) (defBody s_bits_for) (defScope s_bits_for) .none kV1 dc1 pm1 an1 cd1 ct1), sl1⟩) (c1 : PySem.W.codeIn K cd1 "bits_for" = true) (k1 : PySem.W.keepIn K (.ref f1) = true)
    (a2 : PySem.W.nsIn K mainGlobals "answers_of" = some (some (.ref f2))) (l2 : K.lookup f2 = some ⟨oc2, od2, .func (PySem.W.fnOf "answers_of" "answers_of" (defArgs s_answers_of) (defBody s_answers_of) (defScope s_answers_of) .none kV2 dc2 pm2 an2 cd2 ct2), sl2⟩) (c2 : PySem.W.codeIn K cd2 "answers_of" = true) (k2 : PySem.W.keepIn K (.ref f2) = true)
    (a3 : PySem.W.nsIn K mainGlobals "power_of" = some (some (.ref f3))) (l3 : K.lookup f3 = some ⟨oc3, od3, .func (PySem.W.fnOf "power_of" "power_of" (defArgs s_power_of) (defBody s_power_of) (defScope s_power_of) .none kV3 dc3 pm3 an3 cd3 ct3), sl3⟩) (c3 : PySem.W.codeIn K cd3 "power_of" = true) (k3 : PySem.W.keepIn K (.ref f3) = true)
    (a4 : PySem.W.nsIn K mainGlobals "cost_table" = some (some (.ref f4))) (l4 : K.lookup f4 = some ⟨oc4, od4, .func (PySem.W.fnOf "cost_table" "cost_table" (defArgs s_cost_table) (defBody s_cost_table) (defScope s_cost_table) .none kV4 dc4 pm4 an4 cd4 ct4), sl4⟩) (c4 : PySem.W.codeIn K cd4 "cost_table" = true) (k4 : PySem.W.keepIn K (.ref f4) = true)
    (a5 : PySem.W.nsIn K mainGlobals "least_prefixes" = some (some (.ref f5))) (l5 : K.lookup f5 = some ⟨oc5, od5, .func (PySem.W.fnOf "least_prefixes" "least_prefixes" (defArgs s_least_prefixes) (defBody s_least_prefixes) (defScope s_least_prefixes) .none kV5 dc5 pm5 an5 cd5 ct5), sl5⟩) (c5 : PySem.W.codeIn K cd5 "least_prefixes" = true) (k5 : PySem.W.keepIn K (.ref f5) = true)
    (a6 : PySem.W.nsIn K mainGlobals "fitting" = some (some (.ref f6))) (l6 : K.lookup f6 = some ⟨oc6, od6, .func (PySem.W.fnOf "fitting" "fitting" (defArgs s_fitting) (defBody s_fitting) (defScope s_fitting) .none kV6 dc6 pm6 an6 cd6 ct6), sl6⟩) (c6 : PySem.W.codeIn K cd6 "fitting" = true) (k6 : PySem.W.keepIn K (.ref f6) = true)
    (a7 : PySem.W.nsIn K mainGlobals "_law_mixed" = some (some (.ref f7))) (l7 : K.lookup f7 = some ⟨oc7, od7, .func (PySem.W.fnOf "_law_mixed" "_law_mixed" (defArgs s_l_mixed) (defBody s_l_mixed) (defScope s_l_mixed) .none kV7 dc7 pm7 an7 cd7 ct7), sl7⟩) (c7 : PySem.W.codeIn K cd7 "_law_mixed" = true) (k7 : PySem.W.keepIn K (.ref f7) = true)
    (a8 : PySem.W.nsIn K mainGlobals "_law_rest" = some (some (.ref f8))) (l8 : K.lookup f8 = some ⟨oc8, od8, .func (PySem.W.fnOf "_law_rest" "_law_rest" (defArgs s_l_rest) (defBody s_l_rest) (defScope s_l_rest) .none kV8 dc8 pm8 an8 cd8 ct8), sl8⟩) (c8 : PySem.W.codeIn K cd8 "_law_rest" = true) (k8 : PySem.W.keepIn K (.ref f8) = true)
    (a9 : PySem.W.nsIn K mainGlobals "_law_pool" = some (some (.ref f9))) (l9 : K.lookup f9 = some ⟨oc9, od9, .func (PySem.W.fnOf "_law_pool" "_law_pool" (defArgs s_l_pool) (defBody s_l_pool) (defScope s_l_pool) .none kV9 dc9 pm9 an9 cd9 ct9), sl9⟩) (c9 : PySem.W.codeIn K cd9 "_law_pool" = true) (k9 : PySem.W.keepIn K (.ref f9) = true)
    (a10 : PySem.W.nsIn K mainGlobals "_law_next" = some (some (.ref f10))) (l10 : K.lookup f10 = some ⟨oc10, od10, .func (PySem.W.fnOf "_law_next" "_law_next" (defArgs s_l_next) (defBody s_l_next) (defScope s_l_next) .none kV10 dc10 pm10 an10 cd10 ct10), sl10⟩) (c10 : PySem.W.codeIn K cd10 "_law_next" = true) (k10 : PySem.W.keepIn K (.ref f10) = true)
    (a11 : PySem.W.nsIn K mainGlobals "_law_draw" = some (some (.ref f11))) (l11 : K.lookup f11 = some ⟨oc11, od11, .func (PySem.W.fnOf "_law_draw" "_law_draw" (defArgs s_l_draw) (defBody s_l_draw) (defScope s_l_draw) .none kV11 dc11 pm11 an11 cd11 ct11), sl11⟩) (c11 : PySem.W.codeIn K cd11 "_law_draw" = true) (k11 : PySem.W.keepIn K (.ref f11) = true)
    (a12 : PySem.W.nsIn K mainGlobals "_law_pick" = some (some (.ref f12))) (l12 : K.lookup f12 = some ⟨oc12, od12, .func (PySem.W.fnOf "_law_pick" "_law_pick" (defArgs s_l_pick) (defBody s_l_pick) (defScope s_l_pick) .none kV12 dc12 pm12 an12 cd12 ct12), sl12⟩) (c12 : PySem.W.codeIn K cd12 "_law_pick" = true) (k12 : PySem.W.keepIn K (.ref f12) = true)
    (a13 : PySem.W.nsIn K mainGlobals "_law_same" = some (some (.ref f13))) (l13 : K.lookup f13 = some ⟨oc13, od13, .func (PySem.W.fnOf "_law_same" "_law_same" (defArgs s_l_same) (defBody s_l_same) (defScope s_l_same) .none kV13 dc13 pm13 an13 cd13 ct13), sl13⟩) (c13 : PySem.W.codeIn K cd13 "_law_same" = true) (k13 : PySem.W.keepIn K (.ref f13) = true)
    (a14 : PySem.W.nsIn K mainGlobals "_law_fit" = some (some (.ref f14))) (l14 : K.lookup f14 = some ⟨oc14, od14, .func (PySem.W.fnOf "_law_fit" "_law_fit" (defArgs s_l_fit) (defBody s_l_fit) (defScope s_l_fit) .none kV14 dc14 pm14 an14 cd14 ct14), sl14⟩) (c14 : PySem.W.codeIn K cd14 "_law_fit" = true) (k14 : PySem.W.keepIn K (.ref f14) = true)
    (a15 : PySem.W.nsIn K mainGlobals "_law_cost_own" = some (some (.ref f15))) (l15 : K.lookup f15 = some ⟨oc15, od15, .func (PySem.W.fnOf "_law_cost_own" "_law_cost_own" (defArgs s_l_cost_own) (defBody s_l_cost_own) (defScope s_l_cost_own) .none kV15 dc15 pm15 an15 cd15 ct15), sl15⟩) (c15 : PySem.W.codeIn K cd15 "_law_cost_own" = true) (k15 : PySem.W.keepIn K (.ref f15) = true)
    (a16 : PySem.W.nsIn K mainGlobals "_law_heads" = some (some (.ref f16))) (l16 : K.lookup f16 = some ⟨oc16, od16, .func (PySem.W.fnOf "_law_heads" "_law_heads" (defArgs s_l_heads) (defBody s_l_heads) (defScope s_l_heads) .none kV16 dc16 pm16 an16 cd16 ct16), sl16⟩) (c16 : PySem.W.codeIn K cd16 "_law_heads" = true) (k16 : PySem.W.keepIn K (.ref f16) = true)
    (a17 : PySem.W.nsIn K mainGlobals "_law_tables" = some (some (.ref f17))) (l17 : K.lookup f17 = some ⟨oc17, od17, .func (PySem.W.fnOf "_law_tables" "_law_tables" (defArgs s_l_tables) (defBody s_l_tables) (defScope s_l_tables) .none kV17 dc17 pm17 an17 cd17 ct17), sl17⟩) (c17 : PySem.W.codeIn K cd17 "_law_tables" = true) (k17 : PySem.W.keepIn K (.ref f17) = true)
    (a18 : PySem.W.nsIn K mainGlobals "law" = some (some (.ref f18))) (l18 : K.lookup f18 = some ⟨oc18, od18, .func (PySem.W.fnOf "law" "law" (defArgs s_law) (defBody s_law) (defScope s_law) .none kV18 dc18 pm18 an18 cd18 ct18), sl18⟩) (c18 : PySem.W.codeIn K cd18 "law" = true) (k18 : PySem.W.keepIn K (.ref f18) = true)
    (z1 : PySem.W.nsIn K mainGlobals "len" = some none)
    (z2 : PySem.W.nsIn K mainGlobals "min" = some none)
    (z3 : PySem.W.nsIn K mainGlobals "int" = some none)
    (z4 : PySem.W.nsIn K mainGlobals "tuple" = some none)
    (z5 : PySem.W.nsIn K mainGlobals "list" = some none)
    (z6 : PySem.W.nsIn K mainGlobals "sorted" = some none)
    (z7 : PySem.W.nsIn K mainGlobals "isinstance" = some none)
    (z8 : PySem.W.nsIn K mainGlobals "range" = some none)
    (z9 : PySem.W.nsIn K mainGlobals "bool" = some none)
    (z10 : PySem.W.nsIn K mainGlobals "str" = some none)
    (z11 : PySem.W.nsIn K mainGlobals "dict" = some none) :
    ∃ fd : FuncData, (∀ (s : Shared) (v : Value), BindsTo s fd ⟨[v], []⟩ [("script", v)]) ∧ ∀ base : Heap, K.In base → base.Ns mainGlobals mg → FnOk l.prog w K mg base CX0 6 fa fd ["script"] (spLaw K) := by
  have e := hfa.symm.trans (PySem.W.mg_of X G a18)
  cases e
  have B : Blt mg := ⟨PySem.W.mg_none_of X G z1, PySem.W.mg_none_of X G z2, PySem.W.mg_none_of X G z3, PySem.W.mg_none_of X G z4, PySem.W.mg_none_of X G z5, PySem.W.mg_none_of X G z6, PySem.W.mg_none_of X G z7, PySem.W.mg_none_of X G z8, PySem.W.mg_none_of X G z9, PySem.W.mg_none_of X G z10, PySem.W.mg_none_of X G z11⟩
  have F1 := fun_mk (st := s_bits_for) l1 c1 k1
  have F2 := fun_mk (st := s_answers_of) l2 c2 k2
  have F3 := fun_mk (st := s_power_of) l3 c3 k3
  have F4 := fun_mk (st := s_cost_table) l4 c4 k4
  have F5 := fun_mk (st := s_least_prefixes) l5 c5 k5
  have F6 := fun_mk (st := s_fitting) l6 c6 k6
  have F7 := fun_mk (st := s_l_mixed) l7 c7 k7
  have F8 := fun_mk (st := s_l_rest) l8 c8 k8
  have F9 := fun_mk (st := s_l_pool) l9 c9 k9
  have F10 := fun_mk (st := s_l_next) l10 c10 k10
  have F11 := fun_mk (st := s_l_draw) l11 c11 k11
  have F12 := fun_mk (st := s_l_pick) l12 c12 k12
  have F13 := fun_mk (st := s_l_same) l13 c13 k13
  have F14 := fun_mk (st := s_l_fit) l14 c14 k14
  have F15 := fun_mk (st := s_l_cost_own) l15 c15 k15
  have F16 := fun_mk (st := s_l_heads) l16 c16 k16
  have F17 := fun_mk (st := s_l_tables) l17 c17 k17
  have F18 := fun_mk (st := s_law) l18 c18 k18
  refine ⟨PySem.W.fnOf "law" "law" (defArgs s_law) (defBody s_law) (defScope s_law) .none kV18 dc18 pm18 an18 cd18 ct18, fun s v => .of_eq rfl, fun base _ _ => ?_⟩
  have h_bits_for := K60.h_bits_for (P := l.prog) (w := w) (base := base) F1 (PySem.W.mg_of X G a1) B 
  have h_answers_of := K60.h_answers_of (P := l.prog) (w := w) (base := base) F2 (PySem.W.mg_of X G a2) B 
  have h_power_of := K60.h_power_of (P := l.prog) (w := w) (base := base) F3 (PySem.W.mg_of X G a3) B 
  have h_cost_table := K60.h_cost_table (P := l.prog) (w := w) (base := base) F4 (PySem.W.mg_of X G a4) B h_bits_for h_answers_of h_power_of
  have h_least_prefixes := K60.h_least_prefixes (P := l.prog) (w := w) (base := base) F5 (PySem.W.mg_of X G a5) B h_bits_for h_cost_table h_answers_of
  have h_fitting := K60.h_fitting (P := l.prog) (w := w) (base := base) F6 (PySem.W.mg_of X G a6) B h_power_of
  have h_l_mixed := K60.h_l_mixed (P := l.prog) (w := w) (base := base) F7 (PySem.W.mg_of X G a7) B 
  have h_l_rest := K60.h_l_rest (P := l.prog) (w := w) (base := base) F8 (PySem.W.mg_of X G a8) B h_l_mixed
  have h_l_pool := K60.h_l_pool (P := l.prog) (w := w) (base := base) F9 (PySem.W.mg_of X G a9) B h_l_rest
  have h_l_next := K60.h_l_next (P := l.prog) (w := w) (base := base) F10 (PySem.W.mg_of X G a10) B h_l_rest
  have h_l_draw := K60.h_l_draw (P := l.prog) (w := w) (base := base) F11 (PySem.W.mg_of X G a11) B h_l_rest
  have h_l_pick := K60.h_l_pick (P := l.prog) (w := w) (base := base) F12 (PySem.W.mg_of X G a12) B h_l_draw
  have h_l_same := K60.h_l_same (P := l.prog) (w := w) (base := base) F13 (PySem.W.mg_of X G a13) B  3
  have h_l_fit := K60.h_l_fit (P := l.prog) (w := w) (base := base) F14 (PySem.W.mg_of X G a14) B 
  have h_l_cost_own := K60.h_l_cost_own (P := l.prog) (w := w) (base := base) F15 (PySem.W.mg_of X G a15) B  5
  have h_l_heads := K60.h_l_heads (P := l.prog) (w := w) (base := base) F16 (PySem.W.mg_of X G a16) B 
  have h_l_tables := K60.h_l_tables (P := l.prog) (w := w) (base := base) F17 (PySem.W.mg_of X G a17) B h_l_heads
  exact (ok_law F18 (PySem.W.mg_of X G a18) B h_l_pool h_l_next h_l_draw h_power_of h_bits_for h_l_same h_least_prefixes h_answers_of h_l_cost_own h_l_heads h_cost_table h_l_fit h_fitting h_l_tables h_l_pick).imp law_sp
end K60
open PySem PySem.W PyProof.Rows
set_option maxHeartbeats 0 in
theorem PySem.Challenge.cw_gateproof_k60_whole_least_tables_of_pref_holds : PySem.Challenge.rw_gateproof_k60_whole_least_tables_of_pref.Holds := by
  w_on; o_law; k_head; (case hw => w_witness2)
  k_fill
  refine L2.walk_of (l := PySem.Challenge.rw_gateproof_k60_whole_least_tables_of_pref) (n := 63) (k := 6) (x := "script") (CX := fun _ => L2.CX0) (sp := fun w => K60.spLaw _) rfl (by decide) rfl ⟨rfl, by decide, by decide⟩ (fun w h Y => PySem.W.kIn_of Y) ?F (fun _ _ a ns hl _ hS => ⟨a, ns, rfl, hS, hl, fun _ => rfl⟩) (fun _ _ _ _ _ h => h)
  case F =>
    intro w mg fa h KX G hmg
    refine' K60.all_mk KX G hmg ?a1 ?l1 ?c1 ?k1 ?a2 ?l2 ?c2 ?k2 ?a3 ?l3 ?c3 ?k3 ?a4 ?l4 ?c4 ?k4 ?a5 ?l5 ?c5 ?k5 ?a6 ?l6 ?c6 ?k6 ?a7 ?l7 ?c7 ?k7 ?a8 ?l8 ?c8 ?k8 ?a9 ?l9 ?c9 ?k9 ?a10 ?l10 ?c10 ?k10 ?a11 ?l11 ?c11 ?k11 ?a12 ?l12 ?c12 ?k12 ?a13 ?l13 ?c13 ?k13 ?a14 ?l14 ?c14 ?k14 ?a15 ?l15 ?c15 ?k15 ?a16 ?l16 ?c16 ?k16 ?a17 ?l17 ?c17 ?k17 ?a18 ?l18 ?c18 ?k18 ?z1 ?z2 ?z3 ?z4 ?z5 ?z6 ?z7 ?z8 ?z9 ?z10 ?z11
    (case a1 => k_is); (case l1 => k_is); (case c1 => k_is); (case k1 => k_is); (case a2 => k_is); (case l2 => k_is); (case c2 => k_is); (case k2 => k_is); (case a3 => k_is); (case l3 => k_is); (case c3 => k_is); (case k3 => k_is); (case a4 => k_is); (case l4 => k_is); (case c4 => k_is); (case k4 => k_is); (case a5 => k_is); (case l5 => k_is); (case c5 => k_is); (case k5 => k_is); (case a6 => k_is); (case l6 => k_is); (case c6 => k_is); (case k6 => k_is); (case a7 => k_is); (case l7 => k_is); (case c7 => k_is); (case k7 => k_is); (case a8 => k_is); (case l8 => k_is); (case c8 => k_is); (case k8 => k_is); (case a9 => k_is); (case l9 => k_is); (case c9 => k_is); (case k9 => k_is); (case a10 => k_is); (case l10 => k_is); (case c10 => k_is); (case k10 => k_is); (case a11 => k_is); (case l11 => k_is); (case c11 => k_is); (case k11 => k_is); (case a12 => k_is); (case l12 => k_is); (case c12 => k_is); (case k12 => k_is); (case a13 => k_is); (case l13 => k_is); (case c13 => k_is); (case k13 => k_is); (case a14 => k_is); (case l14 => k_is); (case c14 => k_is); (case k14 => k_is); (case a15 => k_is); (case l15 => k_is); (case c15 => k_is); (case k15 => k_is); (case a16 => k_is); (case l16 => k_is); (case c16 => k_is); (case k16 => k_is); (case a17 => k_is); (case l17 => k_is); (case c17 => k_is); (case k17 => k_is); (case a18 => k_is); (case l18 => k_is); (case c18 => k_is); (case k18 => k_is); (case z1 => k_is); (case z2 => k_is); (case z3 => k_is); (case z4 => k_is); (case z5 => k_is); (case z6 => k_is); (case z7 => k_is); (case z8 => k_is); (case z9 => k_is); (case z10 => k_is); (case z11 => k_is)
