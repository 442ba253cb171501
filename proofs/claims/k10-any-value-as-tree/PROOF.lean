import PyProof.Rows.All
import Wide.All
import OpenK.AllK
import Wide.FinOn
import HandS.ForMost
import KE.KDictKeyed
import HandS.IsInst
import HandS.Flow
import HandS.TupAny
import HandS.TupLe
import HandS.Zip
import HandS.Style
import HandS.Small
import HandS.Deep
import HandS.Conv
import HandS.Words
import HandS.Walk
import HandS.Rev
import HandS.Strs
import KE.KDictZip
import PyProof.ListNew
import PyProof.ReprRoads
import HandS.RaiseMore
import HandS.Ends
import HandS.SetKeys
import PyProof.FitsInt
import PyProof.StrLawsRepr
import PySem.Challenge.RW_actworks_k10_any_value_as_tree
set_option Elab.async false
set_option linter.all false
set_option maxRecDepth 100000
set_option maxHeartbeats 2000000
/-! D1: Python data read off the abstract heap (Rv), the slots of a small evaluator (Sl), the relation between both (Stt). -/
namespace Mi
open PySem PySem.Spec PyProof.Rows L2

/-- the greatest length of a list, tuple, text -/
def lim : Nat := 16777216
theorem lim_eq : lim = sizeLine := sizeLine_eq.symm
def keyD : Key → PyData
  | .inl i => .int i
  | .inr x => .str x
theorem keyD_inj {a b : Key} (h : keyD a = keyD b) : a = b := by
  cases a <;> cases b <;> simp_all [keyD]

mutual
/-- v reads as d, all of it standing in the heap F -/
inductive Rv (K : PySem.W.Frag) (F : Hp) : V → PyData → Prop
  | non : Rv K F .non .none
  | bl (b : Bool) : Rv K F (.bl b) (.bool b)
  | int (i : Int) : Rv K F (.int i) (.int i)
  | str (x : Str) (h : x.length ≤ lim) : Rv K F (.str x) (.str x)
  | lst {a : Addr} {xs : List V} {ds : List PyData} : F a = some (.lst xs) → RvAll K F xs ds → Rv K F (.ref a) (.list ds)
  | tup {a : Addr} {xs : List V} {ds : List PyData} : SqT K F a xs → RvAll K F xs ds → Rv K F (.ref a) (.tuple ds)
  | dct {a : Addr} {kvs : List (Key × V)} {ds : List (PyData × PyData)} : F a = some (.dK kvs) → RvKV K F kvs ds → Rv K F (.ref a) (.dict ds)
inductive RvAll (K : PySem.W.Frag) (F : Hp) : List V → List PyData → Prop
  | nil : RvAll K F [] []
  | cons {v : V} {vs : List V} {d : PyData} {ds : List PyData} : Rv K F v d → RvAll K F vs ds → RvAll K F (v :: vs) (d :: ds)
inductive RvKV (K : PySem.W.Frag) (F : Hp) : List (Key × V) → List (PyData × PyData) → Prop
  | nil : RvKV K F [] []
  | cons {k : Key} {v : V} {vs : List (Key × V)} {d : PyData} {ds : List (PyData × PyData)} : Rv K F (kV k) (keyD k) → Rv K F v d → RvKV K F vs ds → RvKV K F ((k, v) :: vs) ((keyD k, d) :: ds)
end

section
variable {K : PySem.W.Frag} {F F' : Hp}
theorem same_t {a : Addr} {xs : List V} (e : Same F F') (h : SqT K F a xs) : SqT K F' a xs := by
  rcases h with (h | ⟨o, h⟩) | h
  · exact .inl (.inl (e _ _ h))
  · exact .inl (.inr ⟨o, e _ _ h⟩)
  · exact .inr h
theorem same_l {a : Addr} {xs : List V} (e : Same F F') (h : SqL K F a xs) : SqL K F' a xs := e.seq h
mutual
theorem Rv.mono (e : Same F F') : ∀ {v : V} {d : PyData}, Rv K F v d → Rv K F' v d
  | _, _, .non => .non
  | _, _, .bl b => .bl b
  | _, _, .int i => .int i
  | _, _, .str x h => .str x h
  | _, _, .lst h r => .lst (e _ _ h) (RvAll.mono e r)
  | _, _, .tup h r => .tup (same_t e h) (RvAll.mono e r)
  | _, _, .dct h r => .dct (e _ _ h) (RvKV.mono e r)
theorem RvAll.mono (e : Same F F') : ∀ {vs : List V} {ds : List PyData}, RvAll K F vs ds → RvAll K F' vs ds
  | _, _, .nil => .nil
  | _, _, .cons h r => .cons (Rv.mono e h) (RvAll.mono e r)
theorem RvKV.mono (e : Same F F') : ∀ {vs : List (Key × V)} {ds : List (PyData × PyData)}, RvKV K F vs ds → RvKV K F' vs ds
  | _, _, .nil => .nil
  | _, _, .cons g h r => .cons (Rv.mono e g) (Rv.mono e h) (RvKV.mono e r)
end
theorem RvAll.length : ∀ {vs : List V} {ds : List PyData}, RvAll K F vs ds → vs.length = ds.length
  | _, _, .nil => rfl
  | _, _, .cons _ r => by rw [List.length_cons, List.length_cons, RvAll.length r]
theorem RvKV.keys : ∀ {vs : List (Key × V)} {ds : List (PyData × PyData)}, RvKV K F vs ds → RvAll K F (vs.map fun kv => kV kv.1) (ds.map (·.1))
  | _, _, .nil => .nil
  | _, _, .cons g _ r => .cons g (RvKV.keys r)
theorem RvKV.length : ∀ {vs : List (Key × V)} {ds : List (PyData × PyData)}, RvKV K F vs ds → vs.length = ds.length
  | _, _, .nil => rfl
  | _, _, .cons _ _ r => by rw [List.length_cons, List.length_cons, RvKV.length r]
theorem RvAll.append : ∀ {vs : List V} {ds : List PyData} {ws : List V} {es : List PyData}, RvAll K F vs ds → RvAll K F ws es → RvAll K F (vs ++ ws) (ds ++ es)
  | _, _, _, _, .nil, s => s
  | _, _, _, _, .cons h r, s => .cons h (RvAll.append r s)
theorem RvAll.get : ∀ {vs : List V} {ds : List PyData} {i : Nat} {d : PyData}, RvAll K F vs ds → ds[i]? = some d → ∃ v, vs[i]? = some v ∧ Rv K F v d
  | _, _, _, _, .nil, e => by simp at e
  | _, _, 0, _, .cons h _, e => by simp at e; subst e; exact ⟨_, rfl, h⟩
  | _, _, i + 1, d, .cons _ r, e => by
    obtain ⟨v, h1, h2⟩ := RvAll.get (i := i) (d := d) r (by simpa using e)
    exact ⟨v, by simpa using h1, h2⟩
theorem RvAll.getV : ∀ {vs : List V} {ds : List PyData} {i : Nat} {v : V}, RvAll K F vs ds → vs[i]? = some v → ∃ d, ds[i]? = some d ∧ Rv K F v d
  | _, _, _, _, .nil, e => by simp at e
  | _, _, 0, _, .cons h _, e => by simp at e; subst e; exact ⟨_, rfl, h⟩
  | _, _, i + 1, v, .cons _ r, e => by
    obtain ⟨d, h1, h2⟩ := RvAll.getV (i := i) (v := v) r (by simpa using e)
    exact ⟨d, by simpa using h1, h2⟩
theorem RvAll.drop : ∀ {vs : List V} {ds : List PyData} (n : Nat), RvAll K F vs ds → RvAll K F (vs.drop n) (ds.drop n)
  | _, _, 0, r => r
  | _, _, _ + 1, .nil => .nil
  | _, _, n + 1, .cons _ r => RvAll.drop n r
theorem RvAll.take : ∀ {vs : List V} {ds : List PyData} (n : Nat), RvAll K F vs ds → RvAll K F (vs.take n) (ds.take n)
  | _, _, 0, _ => .nil
  | _, _, _ + 1, .nil => .nil
  | _, _, n + 1, .cons h r => .cons h (RvAll.take n r)
theorem RvAll.reverse {vs : List V} {ds : List PyData} (h : RvAll K F vs ds) : RvAll K F vs.reverse ds.reverse := by
  induction vs generalizing ds with
  | nil => cases h; exact .nil
  | cons v vs ih =>
    cases h with
    | cons h r =>
      rw [List.reverse_cons, List.reverse_cons]
      exact (ih r).append (.cons h .nil)
theorem RvAll.set {v : V} {d : PyData} (h : Rv K F v d) : ∀ {vs : List V} {ds : List PyData} (i : Nat), RvAll K F vs ds → RvAll K F (vs.set i v) (ds.set i d)
  | _, _, _, .nil => .nil
  | _, _, 0, .cons _ r => .cons h r
  | _, _, i + 1, .cons q r => .cons q (RvAll.set h i r)
theorem RvAll.dropLast {vs : List V} {ds : List PyData} (h : RvAll K F vs ds) : RvAll K F vs.dropLast ds.dropLast := by
  rw [List.dropLast_eq_take, List.dropLast_eq_take, h.length]
  exact h.take _
theorem RvAll.strs : ∀ {xs : List Str}, (∀ x ∈ xs, x.length ≤ lim) → RvAll K F (xs.map V.str) (xs.map PyData.str)
  | [], _ => .nil
  | x :: xs, h => .cons (.str x (h x List.mem_cons_self)) (RvAll.strs fun y hy => h y (List.mem_cons_of_mem _ hy))
theorem RvAll.ints : ∀ {xs : List Int}, RvAll K F (xs.map V.int) (xs.map PyData.int)
  | [] => .nil
  | x :: xs => .cons (.int x) RvAll.ints
theorem RvAll.to_strs : ∀ {xs : List Str} {vs : List V}, RvAll K F vs (xs.map PyData.str) → vs = xs.map V.str
  | [], _, .nil => rfl
  | x :: xs, _, .cons h r => by
    cases h
    rw [RvAll.to_strs r]; rfl
theorem RvAll.to_ints : ∀ {xs : List Int} {vs : List V}, RvAll K F vs (xs.map PyData.int) → vs = xs.map V.int
  | [], _, .nil => rfl
  | x :: xs, _, .cons h r => by
    cases h
    rw [RvAll.to_ints r]; rfl
theorem RvAll.to_bools : ∀ {xs : List Bool} {vs : List V}, RvAll K F vs (xs.map PyData.bool) → vs = xs.map V.bl
  | [], _, .nil => rfl
  | x :: xs, _, .cons h r => by
    cases h
    rw [RvAll.to_bools r]; rfl
end

/-! ### keys that are tuples -/
mutual
def nkD : PyData → Option NestedKey
  | .none => some .none
  | .bool b => some (.num (if b = true then 1 else 0))
  | .int i => some (.num i)
  | .str x => some (.text x)
  | .tuple ds => (nkAll ds).map .tup
  | .list _ => none
  | .dict _ => none
def nkAll : List PyData → Option (List NestedKey)
  | [] => some []
  | d :: ds => match nkD d, nkAll ds with
    | some k, some ks => some (k :: ks)
    | _, _ => none
end
/-- a tuple that is a key -/
def nkT (d : PyData) : Option NestedKey := match d with
  | .tuple _ => (nkD d).bind fun k => if k.depth ≤ 8 then some k else none
  | _ => none
/-- the entries of a dict whose keys are tuples -/
inductive RvN (K : PySem.W.Frag) (F : Hp) : List (NestedKey × Addr × Value) → List (PyData × PyData) → Prop
  | nil : RvN K F [] []
  | cons {ka : Addr} {kd : PyData} {nk : NestedKey} {u : Value} {v : V} {d : PyData} {xs : List (NestedKey × Addr × Value)} {ds : List (PyData × PyData)} : Rv K F (.ref ka) kd → nkT kd = some nk → RelV v u → Rv K F v d → RvN K F xs ds → RvN K F ((nk, ka, u) :: xs) ((kd, d) :: ds)
theorem RvN.mono {K : PySem.W.Frag} {F F' : Hp} (e : Same F F') {xs : List (NestedKey × Addr × Value)} {ds : List (PyData × PyData)} (h : RvN K F xs ds) : RvN K F' xs ds := by
  induction h with
  | nil => exact .nil
  | cons h1 h2 h3 h4 _ ih => exact .cons (h1.mono e) h2 h3 (h4.mono e) ih
theorem RvN.length {K : PySem.W.Frag} {F : Hp} {xs : List (NestedKey × Addr × Value)} {ds : List (PyData × PyData)} (h : RvN K F xs ds) : xs.length = ds.length := by
  induction h with
  | nil => rfl
  | cons _ _ _ _ _ ih => rw [List.length_cons, List.length_cons, ih]
/-- the dict at a, by its entries -/
def dnφ (w : World) (a : Addr) (xs : List (NestedKey × Addr × Value)) : Heap → Prop := fun h =>
  (a == sysModules) = false ∧ xs.length ≤ sizeLine ∧ ∃ o es ep, h.get? a = some o ∧ o.ExactDict ∧ o.data = .dict es ep ∧ es.toList = xs.map (fun x => (⟨x.1.hash w, .ref x.2.1, x.2.2⟩ : DictEntry)) ∧ (xs.map (·.1)).Nodup

/-! ### data without lists and dicts in it: nothing that may change -/
mutual
def noMut : PyData → Bool
  | .list _ => false
  | .dict _ => false
  | .tuple ds => noMutAll ds
  | _ => true
def noMutAll : List PyData → Bool
  | [] => true
  | d :: ds => noMut d && noMutAll ds
end
section
variable {K : PySem.W.Frag} {F F' : Hp}
/-- tuples alone are looked at -/
def TupsOf (F F' : Hp) : Prop := ∀ a, (∀ xs, F a = some (.tup xs) → F' a = some (.tup xs)) ∧ ∀ o xs, F a = some (.frz o (.tup xs)) → F' a = some (.frz o (.tup xs))
theorem tups_t {a : Addr} {xs : List V} (e : TupsOf F F') (h : SqT K F a xs) : SqT K F' a xs := by
  rcases h with (h | ⟨o, h⟩) | h
  · exact .inl (.inl ((e a).1 _ h))
  · exact .inl (.inr ⟨o, (e a).2 _ _ h⟩)
  · exact .inr h
mutual
theorem Rv.noMut (e : TupsOf F F') : ∀ {v : V} {d : PyData}, Mi.noMut d = true → Rv K F v d → Rv K F' v d
  | _, _, _, .non => .non
  | _, _, _, .bl b => .bl b
  | _, _, _, .int i => .int i
  | _, _, _, .str x h => .str x h
  | _, _, h, .lst _ _ => by simp [Mi.noMut] at h
  | _, _, h, .tup q r => .tup (tups_t e q) (RvAll.noMut e (by simpa [Mi.noMut] using h) r)
  | _, _, h, .dct _ _ => by simp [Mi.noMut] at h
theorem RvAll.noMut (e : TupsOf F F') : ∀ {vs : List V} {ds : List PyData}, noMutAll ds = true → RvAll K F vs ds → RvAll K F' vs ds
  | _, _, _, .nil => .nil
  | _, _, h, .cons q r => by
    simp [noMutAll] at h
    exact .cons (Rv.noMut e h.1 q) (RvAll.noMut e h.2 r)
end
end

/-! ### slots -/
inductive Sl where
  /-- not known -/
  | un
  /-- a value that nobody changes any more -/
  | val (d : PyData)
  /-- a list, a dict that this name alone holds: it may be changed -/
  | own (ds : List PyData)
  | owd (kvs : List (PyData × PyData))
  /-- a dict whose keys are tuples -/
  | owt (kvs : List (PyData × PyData))
  /-- the law's script: read, never written -/
  | scr (ds : List PyData)
abbrev En := List Sl
def Sl.isOwn : Sl → Bool
  | .own _ => true
  | .owd _ => true
  | .owt _ => true
  | _ => false
/-- own B: what has to stand as it stands; F0: the frozen heap at the entry; io: slots that hold a list of the caller's, with its place -/
structure Bs where
  B : Hp
  F0 : Hp
  io : List (Nat × Addr)
  w : World

def SlOk (K : PySem.W.Frag) (b : Bs) (F : Hp) (σ : L2.St) (H : Hp) (i : Nat) : Sl → Prop
  | .un => True
  | .val d => ∃ v, σ[i]? = some (some v) ∧ Rv K F v d
  | .own ds => ∃ p vs, σ[i]? = some (some (.ref p)) ∧ H p = some (.lst vs) ∧ F p = none ∧ b.B p = none ∧ RvAll K F vs ds
  | .owd ds => ∃ p vs, σ[i]? = some (some (.ref p)) ∧ H p = some (.dK vs) ∧ F p = none ∧ b.B p = none ∧ RvKV K F vs ds
  | .owt ds => ∃ p xs, σ[i]? = some (some (.ref p)) ∧ H p = some (.ext (dnφ b.w p xs)) ∧ F p = none ∧ b.B p = none ∧ RvN K F xs ds
  | .scr ds => ∃ p vs, σ[i]? = some (some (.ref p)) ∧ SqL K F p vs ∧ RvAll K F vs ds
def ownAt (env : En) (i : Nat) : Prop := ∃ s, env[i]? = some s ∧ s.isOwn = true
structure Stt (K : PySem.W.Frag) (b : Bs) (F : Hp) (σ : L2.St) (H : Hp) (env : En) : Prop where
  fh : Same F H
  bh : Same b.B H
  ff : Same b.F0 F
  nw : ∀ a, b.B a ≠ none → F a ≠ none → b.F0 a ≠ none
  len : env.length = σ.length
  sl : ∀ i s, env[i]? = some s → SlOk K b F σ H i s
  sep : ∀ i j p, ownAt env i → ownAt env j → σ[i]? = some (some (.ref p)) → σ[j]? = some (some (.ref p)) → i = j
  ios : ∀ q ∈ b.io, σ[q.1]? = some (some (.ref q.2))

/-- an own slot's place -/
def OwnP (env : En) (σ : L2.St) (p : Addr) : Prop := ∃ i, ownAt env i ∧ σ[i]? = some (some (.ref p))

section
variable {K : PySem.W.Frag} {b : Bs} {F F' : Hp} {σ : L2.St} {H H' : Hp} {env : En}
theorem SlOk.own_ref {i : Nat} {s : Sl} (h : SlOk K b F σ H i s) (o : s.isOwn = true) : ∃ p, σ[i]? = some (some (.ref p)) ∧ (H p).isSome = true ∧ F p = none ∧ b.B p = none := by
  cases s with
  | un => simp [Sl.isOwn] at o
  | val d => simp [Sl.isOwn] at o
  | own ds => obtain ⟨p, vs, h1, h2, h3, h4, _⟩ := h; exact ⟨p, h1, by simp [h2], h3, h4⟩
  | owd ds => obtain ⟨p, vs, h1, h2, h3, h4, _⟩ := h; exact ⟨p, h1, by simp [h2], h3, h4⟩
  | owt ds => obtain ⟨p, vs, h1, h2, h3, h4, _⟩ := h; exact ⟨p, h1, by simp [h2], h3, h4⟩
  | scr d => simp [Sl.isOwn] at o
theorem Stt.own_ref (S : Stt K b F σ H env) {p : Addr} (h : OwnP env σ p) : (H p).isSome = true ∧ F p = none ∧ b.B p = none := by
  obtain ⟨i, ⟨s, h1, h2⟩, h3⟩ := h
  obtain ⟨q, e1, e2, e3, e4⟩ := (S.sl i s h1).own_ref h2
  rw [h3] at e1; cases e1
  exact ⟨e2, e3, e4⟩
/-- the heap grows by what is new: nothing else changes; the frozen heap grows by some of the new -/
theorem Stt.grow (S : Stt K b F σ H env) (hH : Same H H') (hF : Same F F') (hFH : Same F' H') (hn : ∀ a, F' a ≠ none → F a ≠ none ∨ H a = none) : Stt K b F' σ H' env where
  fh := hFH
  bh := S.bh.trans hH
  ff := S.ff.trans hF
  nw := fun a h1 h2 => by
    rcases hn a h2 with h | h
    · exact S.nw a h1 h
    · exfalso
      cases e : b.B a with
      | none => exact h1 e
      | some o => rw [S.bh a o e] at h; cases h
  len := S.len
  sl := fun i s hs => by
    have h := S.sl i s hs
    have nf : ∀ p, (H p).isSome = true → F p = none → F' p = none := fun p h1 h2 => by
      cases e : F' p with
      | none => rfl
      | some o =>
        rcases hn p (by rw [e]; simp) with h | h
        · exact absurd h2 h
        · rw [h] at h1; simp at h1
    cases s with
    | un => trivial
    | val d => obtain ⟨v, h1, h2⟩ := h; exact ⟨v, h1, h2.mono hF⟩
    | own ds => obtain ⟨p, vs, h1, h2, h3, h4, h5⟩ := h; exact ⟨p, vs, h1, hH _ _ h2, nf p (by simp [h2]) h3, h4, h5.mono hF⟩
    | owd ds => obtain ⟨p, vs, h1, h2, h3, h4, h5⟩ := h; exact ⟨p, vs, h1, hH _ _ h2, nf p (by simp [h2]) h3, h4, h5.mono hF⟩
    | owt ds => obtain ⟨p, vs, h1, h2, h3, h4, h5⟩ := h; exact ⟨p, vs, h1, hH _ _ h2, nf p (by simp [h2]) h3, h4, h5.mono hF⟩
    | scr ds => obtain ⟨p, vs, h1, h2, h3⟩ := h; exact ⟨p, vs, h1, same_l hF h2, h3.mono hF⟩
  sep := S.sep
  ios := S.ios
theorem Same.new {H : Hp} {p : Addr} {o : HO} (h : H p = none) : Same H (upd H p o) := fun a u e => by
  rw [upd_ne (ne_of_none e h)]; exact e
theorem Stt.free (S : Stt K b F σ H env) {p : Addr} (h : H p = none) : F p = none ∧ b.B p = none ∧ ¬ OwnP env σ p := by
  refine ⟨S.fh.free h, S.bh.free h, fun o => ?_⟩
  have := (S.own_ref o).1
  rw [h] at this; simp at this
/-- a new object, frozen at once -/
theorem Stt.newF (S : Stt K b F σ H env) {p : Addr} {o : HO} (h : H p = none) : Stt K b (upd F p o) σ (upd H p o) env :=
  S.grow (Same.new h) (Same.new (S.fh.free h)) (fun a u e => by
    by_cases ha : a = p
    · subst ha; rw [upd_same] at e ⊢; exact e
    · rw [upd_ne ha] at e ⊢; exact S.fh a u e) fun a ha => by
    by_cases e : a = p
    · exact .inr (e ▸ h)
    · rw [upd_ne e] at ha; exact .inl ha
/-- a new object, not frozen -/
theorem Stt.newH (S : Stt K b F σ H env) {p : Addr} {o : HO} (h : H p = none) : Stt K b F σ (upd H p o) env :=
  S.grow (Same.new h) (Same.refl F) (S.fh.trans (Same.new h)) fun a ha => .inl ha
/-- an object that nobody owns is frozen as it stands -/
theorem Stt.freezeP (S : Stt K b F σ H env) {p : Addr} {o : HO} (h : H p = some o) (hf : F p = none) (hb : b.B p = none) (ho : ¬ OwnP env σ p) : Stt K b (upd F p o) σ H env where
  fh := fun a u e => by
    by_cases ha : a = p
    · subst ha; rw [upd_same] at e; rw [h]; exact e
    · rw [upd_ne ha] at e; exact S.fh a u e
  bh := S.bh
  ff := S.ff.trans (Same.new hf)
  nw := fun a h1 h2 => by
    by_cases ha : a = p
    · subst ha; exact absurd hb h1
    · rw [upd_ne ha] at h2; exact S.nw a h1 h2
  len := S.len
  sl := fun i s hs => by
    have h' := S.sl i s hs
    have hF : Same F (upd F p o) := Same.new hf
    cases s with
    | un => trivial
    | val d => obtain ⟨v, h1, h2⟩ := h'; exact ⟨v, h1, h2.mono hF⟩
    | own ds =>
      obtain ⟨q, vs, h1, h2, h3, h4, h5⟩ := h'
      refine ⟨q, vs, h1, h2, ?_, h4, h5.mono hF⟩
      rw [upd_ne (fun (e : q = p) => ho ⟨i, ⟨_, hs, rfl⟩, by rw [← e]; exact h1⟩)]; exact h3
    | owd ds =>
      obtain ⟨q, vs, h1, h2, h3, h4, h5⟩ := h'
      refine ⟨q, vs, h1, h2, ?_, h4, h5.mono hF⟩
      rw [upd_ne (fun (e : q = p) => ho ⟨i, ⟨_, hs, rfl⟩, by rw [← e]; exact h1⟩)]; exact h3
    | owt ds =>
      obtain ⟨q, vs, h1, h2, h3, h4, h5⟩ := h'
      refine ⟨q, vs, h1, h2, ?_, h4, h5.mono hF⟩
      rw [upd_ne (fun (e : q = p) => ho ⟨i, ⟨_, hs, rfl⟩, by rw [← e]; exact h1⟩)]; exact h3
    | scr ds => obtain ⟨q, vs, h1, h2, h3⟩ := h'; exact ⟨q, vs, h1, same_l hF h2, h3.mono hF⟩
  sep := S.sep
  ios := S.ios
/-- a slot's word is weakened to one that holds, and that owns no more than before -/
theorem Stt.setEnv (S : Stt K b F σ H env) {i : Nat} {s : Sl} (h : SlOk K b F σ H i s) (ho : s.isOwn = true → ownAt env i) : Stt K b F σ H (env.set i s) where
  fh := S.fh
  bh := S.bh
  ff := S.ff
  nw := S.nw
  len := by rw [List.length_set]; exact S.len
  sl := fun j t ht => by
    by_cases e : i = j
    · subst e
      by_cases hl : i < env.length
      · rw [List.getElem?_set_self hl] at ht; cases ht; exact h
      · rw [List.getElem?_eq_none (by rw [List.length_set]; omega)] at ht; cases ht
    · rw [List.getElem?_set_ne e] at ht; exact S.sl j t ht
  sep := fun j k p hj hk => by
    have back : ∀ j, ownAt (env.set i s) j → ownAt env j := fun j ⟨t, ht, hto⟩ => by
      by_cases e : i = j
      · subst e
        by_cases hl : i < env.length
        · rw [List.getElem?_set_self hl] at ht; cases ht; exact ho hto
        · rw [List.getElem?_eq_none (by rw [List.length_set]; omega)] at ht; cases ht
      · rw [List.getElem?_set_ne e] at ht; exact ⟨t, ht, hto⟩
    exact S.sep j k p (back j hj) (back k hk)
  ios := S.ios
theorem ownAt_set {i j : Nat} {s : Sl} (h : ownAt (env.set i s) j) : (j = i ∧ s.isOwn = true) ∨ (j ≠ i ∧ ownAt env j) := by
  obtain ⟨t, ht, hto⟩ := h
  by_cases e : i = j
  · subst e
    by_cases hl : i < env.length
    · rw [List.getElem?_set_self hl] at ht; cases ht; exact .inl ⟨rfl, hto⟩
    · rw [List.getElem?_eq_none (by rw [List.length_set]; omega)] at ht; cases ht
  · rw [List.getElem?_set_ne e] at ht; exact .inr ⟨fun z => e z.symm, t, ht, hto⟩
/-- an own list of a slot, frozen: the slot's word tells its value alone from then on -/
theorem Stt.freezeL (S : Stt K b F σ H env) {i : Nat} {ds : List PyData} (h : env[i]? = some (.own ds)) :
    ∃ p vs, σ[i]? = some (some (.ref p)) ∧ H p = some (.lst vs) ∧ F p = none ∧ b.B p = none ∧ RvAll K F vs ds ∧ Stt K b (upd F p (.lst vs)) σ H (env.set i (.val (.list ds))) := by
  obtain ⟨p, vs, h1, h2, h3, h4, h5⟩ := S.sl i _ h
  have hF : Same F (upd F p (.lst vs)) := Same.new h3
  have hv : Rv K (upd F p (.lst vs)) (.ref p) (.list ds) := .lst upd_same (h5.mono hF)
  have hi : i < env.length := by
    obtain ⟨x, _⟩ := List.getElem?_eq_some_iff.mp h; exact x
  have S1 : Stt K b F σ H (env.set i .un) := S.setEnv trivial fun z => by simp [Sl.isOwn] at z
  have no : ¬ OwnP (env.set i .un) σ p := fun ⟨j, hj, e⟩ => by
    rcases ownAt_set hj with ⟨_, z⟩ | ⟨n, z⟩
    · simp [Sl.isOwn] at z
    · exact n (S.sep j i p z ⟨_, h, rfl⟩ e h1)
  have S2 := S1.freezeP h2 h3 h4 no
  have S3 := S2.setEnv (i := i) (s := .val (.list ds)) ⟨_, h1, hv⟩ fun z => by simp [Sl.isOwn] at z
  rw [List.set_set] at S3
  exact ⟨p, vs, h1, h2, h3, h4, h5, S3⟩
theorem Stt.freezeD (S : Stt K b F σ H env) {i : Nat} {ds : List (PyData × PyData)} (h : env[i]? = some (.owd ds)) :
    ∃ p vs, σ[i]? = some (some (.ref p)) ∧ H p = some (.dK vs) ∧ F p = none ∧ b.B p = none ∧ RvKV K F vs ds ∧ Stt K b (upd F p (.dK vs)) σ H (env.set i (.val (.dict ds))) := by
  obtain ⟨p, vs, h1, h2, h3, h4, h5⟩ := S.sl i _ h
  have hF : Same F (upd F p (.dK vs)) := Same.new h3
  have hv : Rv K (upd F p (.dK vs)) (.ref p) (.dict ds) := .dct upd_same (h5.mono hF)
  have S1 : Stt K b F σ H (env.set i .un) := S.setEnv trivial fun z => by simp [Sl.isOwn] at z
  have no : ¬ OwnP (env.set i .un) σ p := fun ⟨j, hj, e⟩ => by
    rcases ownAt_set hj with ⟨_, z⟩ | ⟨n, z⟩
    · simp [Sl.isOwn] at z
    · exact n (S.sep j i p z ⟨_, h, rfl⟩ e h1)
  have S2 := S1.freezeP h2 h3 h4 no
  have S3 := S2.setEnv (i := i) (s := .val (.dict ds)) ⟨_, h1, hv⟩ fun z => by simp [Sl.isOwn] at z
  rw [List.set_set] at S3
  exact ⟨p, vs, h1, h2, h3, h4, h5, S3⟩
end
end Mi

set_option maxHeartbeats 2000000
/-! D2: the small syntax (ME, MS) and its evaluator: plain Lean functions on PyData. -/
namespace Mi
open PySem PySem.Spec PyProof.Rows L2

/-! ### values -/
def truth : PyData → Bool
  | .none => false
  | .bool b => b
  | .int i => i != 0
  | .str s => !(s.length == 0)
  | .list ds => !ds.isEmpty
  | .tuple ds => !ds.isEmpty
  | .dict ds => !ds.isEmpty
def lenD : PyData → Option Nat
  | .str s => some s.length
  | .list ds => some ds.length
  | .tuple ds => some ds.length
  | .dict ds => some ds.length
  | _ => none
def binD : Operator → PyData → PyData → Option PyData
  | .Add, .int i, .int j => some (.int (i + j))
  | .Add, .str x, .str y => if x.length + y.length ≤ lim then some (.str (x ++ y)) else none
  | .Add, .list xs, .list ys => if xs.length + ys.length ≤ lim then some (.list (xs ++ ys)) else none
  | .Add, .tuple xs, .tuple ys => if xs.length + ys.length ≤ lim then some (.tuple (xs ++ ys)) else none
  | .Sub, .int i, .int j => some (.int (i - j))
  | .Mult, .int i, .int j => if i.natAbs < 2 ^ 64 ∨ j.natAbs < 2 ^ 64 then some (.int (i * j)) else none
  | .Mult, .str x, .int j => if 0 ≤ j ∧ j < 2 ^ 40 ∧ x.length * j.toNat ≤ lim then some (.str (Txt.mul x j)) else none
  | .Mod, .int i, .int j => if 0 < j then some (.int (i % j)) else none
  | .FloorDiv, .int i, .int j => if 0 < j ∧ j < 1073741824 then some (.int (i / j)) else none
  | .Pow, .int i, .int j => if 0 ≤ j ∧ j ≤ 1000000 ∧ i.natAbs < 2 ^ 64 then some (.int (i ^ j.toNat)) else none
  | _, _, _ => none
def shp (d : PyData) : Bool := SeqAt.shaped d
def flatD : PyData → Bool
  | .none => true
  | .bool _ => true
  | .int _ => true
  | .str x => true
  | _ => false
def keyOf : PyData → Option Key
  | .int i => some (.inl i)
  | .str x => some (.inr x)
  | _ => none
/-- a key's pair in a dict of int and text keys -/
def lookD (kvs : List (PyData × PyData)) (k : PyData) : Option PyData := (kvs.find? fun p => PyData.eqv p.1 k).map (·.2)
def putD (kvs : List (PyData × PyData)) (k v : PyData) : List (PyData × PyData) :=
  if (kvs.any fun p => PyData.eqv p.1 k) = true then kvs.map (fun p => if PyData.eqv p.1 k = true then (p.1, v) else p) else kvs ++ [(k, v)]
def inD (x : PyData) : PyData → Option Bool
  | .str y => match x with
    | .str z => match z.cps.toList with
      | [c] => some (decide (c ∈ y.cps.toList))
      | _ => none
    | _ => none
  | .list ys => if flatD x = true ∧ ys.all flatD = true then some (ys.any fun y => PyData.eqv y x) else if shp x = true ∧ shp (.list ys) = true then some (ys.any fun y => PyData.eqv y x) else none
  | .tuple ys => if flatD x = true ∧ ys.all flatD = true then some (ys.any fun y => PyData.eqv y x) else none
  | .dict kvs => match keyOf x with
    | some _ => some (kvs.any fun p => PyData.eqv p.1 x)
    | none => match kvs, nkT x with
      | [], some _ => some false
      | _, _ => none
  | _ => none
def isNone : PyData → Bool
  | .none => true
  | _ => false
def cmpD : CmpOp → PyData → PyData → Option Bool
  | .Eq, .str x, .str y => some (x == y)
  | .NotEq, .str x, .str y => some (!(x == y))
  | .Eq, x, y => if shp x = true ∧ shp y = true then some (PyData.eqv x y) else none
  | .NotEq, x, y => if shp x = true ∧ shp y = true then some (!PyData.eqv x y) else none
  | .Lt, .int i, .int j => some (decide (i < j))
  | .LtE, .int i, .int j => some (decide (i ≤ j))
  | .Gt, .int i, .int j => some (decide (j < i))
  | .GtE, .int i, .int j => some (decide (j ≤ i))
  | .Lt, .str x, .str y => some (decide (x.cps.toList < y.cps.toList))
  | .LtE, .str x, .str y => some (!decide (y.cps.toList < x.cps.toList))
  | .Gt, .str x, .str y => some (decide (y.cps.toList < x.cps.toList))
  | .GtE, .str x, .str y => some (!decide (x.cps.toList < y.cps.toList))
  | .Is, x, .none => some (isNone x)
  | .IsNot, x, .none => some (!isNone x)
  | .Is, .bool a, .bool c => some (decide (a = c))
  | .IsNot, .bool a, .bool c => some (!decide (a = c))
  | .In, x, y => inD x y
  | .NotIn, x, y => (inD x y).map (!·)
  | _, _, _ => none
def cutL {α : Type} (xs : List α) (lo hi : Option Int) : List α := (xs.drop (HT.sIx xs.length 0 lo)).take (HT.sIx xs.length xs.length hi - HT.sIx xs.length 0 lo)
def idxD : PyData → PyData → Option PyData
  | .list xs, .int i => atI xs i
  | .tuple xs, .int i => atI xs i
  | .str z, .int i => (atI z.cps.toList i).map fun c => .str ⟨#[c]⟩
  | .dict kvs, k => match keyOf k with
    | some _ => lookD kvs k
    | none => none
  | _, _ => none
def slcD (lo hi : Option Int) : PyData → Option PyData
  | .list xs => some (.list (cutL xs lo hi))
  | .tuple xs => some (.tuple (cutL xs lo hi))
  | .str z => some (.str (cutS z lo hi))
  | _ => none
def revD : PyData → Option PyData
  | .list xs => some (.list xs.reverse)
  | .tuple xs => some (.tuple xs.reverse)
  | _ => none
def tyN : PyData → String
  | .none => "NoneType"
  | .bool _ => "bool"
  | .int _ => "int"
  | .str _ => "str"
  | .list _ => "list"
  | .tuple _ => "tuple"
  | .dict _ => "dict"
def isiD (T : String) : PyData → Option Bool
  | .none => some (decide (T = "NoneType"))
  | .bool _ => some (decide (T = "bool") || decide (T = "int"))
  | .int _ => some (decide (T = "int"))
  | .str _ => some (decide (T = "str"))
  | .list _ => some (decide (T = "list"))
  | .tuple _ => some (decide (T = "tuple"))
  | .dict _ => some (decide (T = "dict"))

/-! ### built-in functions and methods -/
inductive BF where
  | len | abs | min2 | max2 | int1 | str1 | all | any | listOf | tupleOf | divmod
  deriving DecidableEq
inductive BM where
  | split | join | get1 | get2
  deriving DecidableEq
def allBools : List PyData → Option (List Bool)
  | [] => some []
  | .bool b :: r => (allBools r).map (b :: ·)
  | _ => none
def allStrs : List PyData → Option (List Str)
  | [] => some []
  | .str b :: r => (allStrs r).map (b :: ·)
  | _ => none

end Mi

set_option maxHeartbeats 2000000
/-! D3: the syntax and the evaluator. -/
namespace Mi
open PySem PySem.Spec PyProof.Rows L2

mutual
inductive ME where
  | cst (d : PyData)
  | glo (x : Str) (d : PyData)
  | var (i : Nat)
  | not_ (a : ME) | and_ (a b : ME) | or_ (a b : ME) | ife (c a b : ME)
  | cmp (op : CmpOp) (a b : ME) | chn (o1 o2 : CmpOp) (a b c : ME)
  | bin (op : Operator) (a b : ME) | neg (a : ME)
  | tup (l : MEs) | lst (l : MEs) | dct0
  | idx (a i : ME) | slc (a : ME) (lo hi : MO) | rev (a : ME)
  | isi (a : ME) (T : String)
  | call (f : Nat) (l lk : MEs) (kw : List Nat)
  | callT (f g : Nat) (l : MEs)
  | lzip (a b : ME)
  | rpr (a : ME) | lset (a : ME)
  | blt (f : BF) (l : MEs)
  | met (m : BM) (a : ME) (l : MEs)
  | comp (vs : List Nat) (g : MG) (it : MI) (c : MO) (e : ME)
inductive MEs where
  | nil | cons (a : ME) (l : MEs)
inductive MO where
  | no | so (a : ME)
inductive MI where
  | seq (a : ME) | rng (a : ME) | rng2 (a b : ME) | enu (a : ME) | zip (a b : ME)
inductive MG where
  | nm (i : Nat) | tp (l : List Nat)
end

/-- an operand: a value, or the slot that holds it alone -/
inductive Op where
  | dt (d : PyData) | sl (i : Nat)
def slD : Sl → Option PyData
  | .un => none
  | .val d => some d
  | .own ds => some (.list ds)
  | .owd ds => some (.dict ds)
  | .owt _ => none
  | .scr _ => none
/-- .. the script too -/
def slS : Sl → Option PyData
  | .scr ds => some (.list ds)
  | s => slD s
def rdS (env : En) : Op → Option PyData
  | .dt d => some d
  | .sl i => (env[i]?).bind slS
def rdSs (env : En) : List Op → Option (List PyData)
  | [] => some []
  | o :: os => (rdS env o).bind fun d => (rdSs env os).map (d :: ·)
def rdO (env : En) : Op → Option PyData
  | .dt d => some d
  | .sl i => (env[i]?).bind slD
def rdOs (env : En) : List Op → Option (List PyData)
  | [] => some []
  | o :: os => (rdO env o).bind fun d => (rdOs env os).map (d :: ·)
/-- a name as an operand is not taken out of its slot -/
def opd (me : ME) (env : En) (r : Option (PyData × En)) : Option (Op × En) :=
  match me with
  | .var i => match env[i]? with
    | some (.val d) => some (.dt d, env)
    | some (.own _) => some (.sl i, env)
    | some (.owd _) => some (.sl i, env)
    | some (.owt _) => some (.sl i, env)
    | some (.scr _) => some (.sl i, env)
    | _ => none
  | _ => r.map fun p => (.dt p.1, p.2)
/-- a name read: what it holds is frozen -/
def evVar (i : Nat) (env : En) : Option (PyData × En) :=
  match env[i]? with
  | some (.val d) => some (d, env)
  | some (.own ds) => some (.list ds, env.set i (.val (.list ds)))
  | some (.owd ds) => some (.dict ds, env.set i (.val (.dict ds)))
  | _ => none
def tstO (r : Option (Op × En)) : Option (Bool × En) := r.bind fun p => (rdO p.2 p.1).map fun d => (truth d, p.2)

/-! ### calls -/
/-- what a parameter takes: a value; a list that it may change; the script -/
inductive Pk where
  | v | io | sc
  deriving DecidableEq
/-- the slots that are handed in to be changed -/
def ioSlots : List Pk → List Op → Option (List Nat)
  | .io :: fs, .sl i :: os => (ioSlots fs os).map (i :: ·)
  | .io :: _, _ => none
  | .sc :: fs, .sl _ :: os => ioSlots fs os
  | .sc :: _, _ => none
  | .v :: fs, _ :: os => ioSlots fs os
  | [], [] => some []
  | _, _ => none
/-- the slots that are lent -/
def lent : List Pk → List Op → List Nat
  | .v :: fs, .sl i :: os => i :: lent fs os
  | _ :: fs, _ :: os => lent fs os
  | _, _ => []
/-- the script's slots -/
def scrs : List Pk → List Op → List Nat
  | .sc :: fs, .sl i :: os => i :: scrs fs os
  | _ :: fs, _ :: os => scrs fs os
  | _, _ => []
def setOuts : List Nat → List (List PyData) → En → En
  | i :: is, o :: os, env => setOuts is os (env.set i (.own o))
  | _, _, env => env
def frz (s : Sl) : Sl := match s with
  | .own ds => .val (.list ds)
  | .owd ds => .val (.dict ds)
  | .owt _ => .un
  | s => s
def frzAt : List Nat → En → En
  | [], env => env
  | i :: is, env => frzAt is (env.set i (frz ((env[i]?).getD .un)))
abbrev Fns := Nat → List PyData → Option ((PyData × Bool) × List (List PyData))
/-- is nothing in a result that could be a list of the caller's? -/
def noMutR (r : PyData × Bool) : Bool := noMut r.1 || (r.2 && match r.1 with
  | .list ds => noMutAll ds
  | _ => false)
def isOwnL (env : En) (i : Nat) : Bool := match env[i]? with
  | some (.own _) => true
  | _ => false
def isScr (env : En) (i : Nat) : Bool := match env[i]? with
  | some (.scr _) => true
  | _ => false
def place (kw : List Nat) (os : List Op) : Option (List Op) := match kw with
  | [] => some os
  | _ => if kw.length = os.length then kw.mapM fun j => os[j]? else none
/-- a call: f's flags io (which parameters it may change), its arguments; with it whether what comes is a new list -/
def callM (Φ : Fns) (io : Nat → List Pk) (f : Nat) (os : List Op) (env : En) : Option ((PyData × Bool) × En) :=
  (rdSs env os).bind fun ds => (ioSlots (io f) os).bind fun is =>
    if (is.all (isOwnL env)) = true ∧ ((scrs (io f) os).all (isScr env)) = true ∧ ((lent (io f) os).all fun i => !isScr env i) = true ∧ is.Nodup ∧ (∀ i ∈ is, i ∉ lent (io f) os) then
      (Φ f ds).bind fun r => if r.2.length = is.length then
        some (r.1, if (noMutR r.1 && r.2.all noMutAll) = true then setOuts is r.2 env else setOuts is r.2 (frzAt (lent (io f) os) env)) else none
    else none
/-- f of a new list, which it may change -/
def callTM (Φ : Fns) (io : Nat → List Pk) (f : Nat) (r : (PyData × Bool) × En) : Option ((PyData × Bool) × En) := match r.1 with
  | (.list ds, true) => if io f = [.io] then (Φ f [.list ds]).bind fun q => if q.2.length = 1 then some (q.1, r.2) else none else none
  | _ => none

/-! ### iteration -/
def strSigns (s : Str) : List PyData := s.cps.toList.map fun c => .str ⟨#[c]⟩
def seqItems : PyData → Option (List PyData)
  | .list ds => some ds
  | .tuple ds => some ds
  | .str s => some (strSigns s)
  | _ => none
def ltItems : PyData → Option (List PyData)
  | .list ds => some ds
  | .tuple ds => some ds
  | _ => none
def intsFrom (a : Int) (n : Nat) : List PyData := (List.range n).map fun (k : Nat) => .int (a + (k : Int))
def enumL : Nat → List PyData → List PyData
  | _, [] => []
  | k, d :: ds => .tuple [.int k, d] :: enumL (k + 1) ds
def zipL : List PyData → List PyData → List PyData
  | a :: r, c :: t => .tuple [a, c] :: zipL r t
  | _, _ => []
def setVals : List Nat → List PyData → En → Option En
  | [], [], env => some env
  | i :: is, d :: ds, env => setVals is ds (env.set i (.val d))
  | _, _, _ => none
def bindT (g : MG) (d : PyData) (env : En) : Option En := match g with
  | .nm i => some (env.set i (.val d))
  | .tp is => match d with
    | .tuple ds => setVals is ds env
    | _ => none
def wipeE (env : En) : List Nat → En
  | [] => env
  | v :: vs => (wipeE env vs).set v .un
/-- behind a comprehension its own names are as they were -/
def backE (env0 : En) : En → List Nat → En
  | env, [] => env
  | env, v :: vs => (backE env0 env vs).set v ((env0[v]?).getD .un)
def compL (vs : List Nat) (g : MG) (c : En → Option (Bool × En)) (e : En → Option (PyData × En)) : List PyData → List PyData → En → Option (List PyData × En)
  | [], acc, env => some (acc, env)
  | x :: xs, acc, env => (bindT g x (wipeE env vs)).bind fun env1 => (c env1).bind fun p => if p.1 = true then
      (e p.2).bind fun q => if acc.length < lim then compL vs g c e xs (acc ++ [q.1]) q.2 else none
    else compL vs g c e xs acc p.2
def notOwn (env : En) (i : Nat) : Bool := match env[i]? with
  | some (.own _) => false
  | some (.owd _) => false
  | some (.owt _) => false
  | _ => true

/-! ### built-ins by values -/
def bltD : BF → List PyData → Option PyData
  | .len, [d] => (lenD d).map fun (n : Nat) => .int (n : Int)
  | .abs, [.int i] => some (.int (if i < 0 then -i else i))
  | .min2, [.int i, .int j] => some (.int (if j < i then j else i))
  | .max2, [.int i, .int j] => some (.int (if j > i then j else i))
  | .int1, [.int i] => some (.int i)
  | .str1, [.int i] => if i.natAbs.log2 < 1920 then some (.str (toString i)) else none
  | .all, [.list ds] => (allBools ds).map fun bs => .bool (bs.all id)
  | .any, [.list ds] => (allBools ds).map fun bs => .bool (bs.any id)
  | .listOf, [.list ds] => some (.list ds)
  | .listOf, [.tuple ds] => some (.list ds)
  | .listOf, [.dict kvs] => some (.list (kvs.map (·.1)))
  | .tupleOf, [.list ds] => some (.tuple ds)
  | .tupleOf, [.tuple ds] => some (.tuple ds)
  | .divmod, [.int i, .int j] => if 0 < j ∧ j < 1073741824 then some (.tuple [.int (i / j), .int (i % j)]) else none
  | _, _ => none
def reprF (d : PyData) : Option PyData := if d.showable = true ∧ d.shown.length ≤ lim ∧ d.depth ≤ 60 then some (.str d.shown) else none
/-- a list without what it holds already -/
def dedS (σ : List Str) (v : Str) : List Str := if σ.any (· == v) = true then σ else σ ++ [v]
def lsetF : PyData → Option PyData
  | .list ds => (allStrs ds).bind fun xs => if xs.length ≤ 4000 then some (.int ((xs.foldl dedS []).length)) else none
  | _ => none
def metD : BM → PyData → List PyData → Option PyData
  | .split, .str x, [.str y] => if y.length ≠ 0 ∧ x.length + 2 ≤ lim then some (.list ((Txt.split x y).map .str)) else none
  | .join, .str x, [.list ds] => (allStrs ds).bind fun ys => if (ys.map (·.length)).sum + ys.length * x.length ≤ lim ∧ (Txt.join x ys).length ≤ lim then some (.str (Txt.join x ys)) else none
  | .get1, .dict kvs, [k] => (keyOf k).bind fun _ => some ((lookD kvs k).getD .none)
  | .get2, .dict kvs, [k, z] => (keyOf k).bind fun _ => some ((lookD kvs k).getD z)
  | _, _, _ => none

/-! ### the evaluator -/
def bnd2 (r : Option (Op × En)) (f : En → Option (Op × En)) (k : PyData → PyData → Option PyData) : Option (PyData × En) :=
  r.bind fun p => (f p.2).bind fun q => (rdO q.2 p.1).bind fun x => (rdO q.2 q.1).bind fun y => (k x y).map fun z => (z, q.2)
def bnd1 (r : Option (Op × En)) (k : PyData → Option PyData) : Option (PyData × En) :=
  r.bind fun p => (rdO p.2 p.1).bind fun x => (k x).map fun z => (z, p.2)
def bndS (r : Option (Op × En)) (f : En → Option (Op × En)) (k : PyData → PyData → Option PyData) : Option (PyData × En) :=
  r.bind fun p => (f p.2).bind fun q => (rdS q.2 p.1).bind fun x => (rdO q.2 q.1).bind fun y => (k x y).map fun z => (z, q.2)
def rdF (f : BF) (env : En) (os : List Op) : Option (List PyData) := match f with
  | .len => rdSs env os
  | _ => rdOs env os
/-- a slot that holds a dict whose keys are tuples -/
def tOf (env : En) : Op → Option (List (PyData × PyData))
  | .sl i => match env[i]? with
    | some (.owt kvs) => some kvs
    | _ => none
  | .dt _ => none
def isIn : CmpOp → Option Bool
  | .In => some true
  | .NotIn => some false
  | _ => none
/-- a comparison; within a dict whose keys are tuples apart -/
def cmpE (op : CmpOp) (oa ob : Op) (env : En) : Option Bool := match tOf env ob with
  | some kvs => (isIn op).bind fun t => (rdO env oa).bind fun x => (nkT x).map fun _ => (kvs.any fun p => PyData.eqv p.1 x) == t
  | none => (rdO env oa).bind fun x => (rdO env ob).bind fun y => cmpD op x y
def rdM (m : BM) (env : En) (os : List Op) : Option (List PyData) := match m, os with
  | .get2, [o, .dt d] => (rdO env o).map fun k => [k, d]
  | .get2, _ => none
  | _, os => rdOs env os
def asInt : PyData → Option Int
  | .int i => some i
  | _ => none
section
variable (Φ : Fns) (io : Nat → List Pk)
mutual
def ev : ME → En → Option (PyData × En)
  | .cst d, env => some (d, env)
  | .glo _ d, env => some (d, env)
  | .var i, env => evVar i env
  | .not_ a, env => (tstO (opd a env (ev a env))).map fun p => (.bool (!p.1), p.2)
  | .and_ a b, env => (ev a env).bind fun p => if truth p.1 = true then ev b p.2 else some p
  | .or_ a b, env => (ev a env).bind fun p => if truth p.1 = true then some p else ev b p.2
  | .ife c a b, env => (tstO (opd c env (ev c env))).bind fun p => if p.1 = true then ev a p.2 else ev b p.2
  | .cmp op a b, env => (opd a env (ev a env)).bind fun p => (opd b p.2 (ev b p.2)).bind fun q => (cmpE op p.1 q.1 q.2).map fun t => (.bool t, q.2)
  | .chn o1 o2 a b c, env => (opd a env (ev a env)).bind fun p => (opd b p.2 (ev b p.2)).bind fun q =>
      (rdO q.2 p.1).bind fun x => (rdO q.2 q.1).bind fun y => (cmpD o1 x y).bind fun t => if t = true then
        (opd c q.2 (ev c q.2)).bind fun r => (rdO r.2 q.1).bind fun y' => (rdO r.2 r.1).bind fun z => (cmpD o2 y' z).map fun u => (.bool u, r.2)
      else some (.bool false, q.2)
  | .bin op a b, env => bnd2 (opd a env (ev a env)) (fun e => opd b e (ev b e)) (binD op)
  | .neg a, env => (ev a env).bind fun p => match p.1 with
    | .int i => some (.int (-i), p.2)
    | _ => none
  | .tup l, env => (evs l env).bind fun p => if p.1.length ≤ lim then some (.tuple p.1, p.2) else none
  | .lst l, env => (evs l env).bind fun p => if p.1.length ≤ lim then some (.list p.1, p.2) else none
  | .dct0, env => some (.dict [], env)
  | .idx a i, env => bndS (opd a env (ev a env)) (fun e => opd i e (ev i e)) idxD
  | .slc a lo hi, env => (opd a env (ev a env)).bind fun p => (evO lo p.2).bind fun q => (evO hi q.2).bind fun r => (rdO r.2 p.1).bind fun x => (slcD q.1 r.1 x).map fun z => (z, r.2)
  | .rev a, env => bnd1 (opd a env (ev a env)) revD
  | .isi a T, env => bnd1 (opd a env (ev a env)) fun d => (isiD T d).map .bool
  | .call f l lk kw, env => (evos l env).bind fun p => (evos lk p.2).bind fun q => (place kw (p.1 ++ q.1)).bind fun os => (callM Φ io f os q.2).map fun q => (q.1.1, q.2)
  | .callT f g l, env => (evos l env).bind fun p => (callM Φ io g p.1 p.2).bind fun q => (callTM Φ io f q).map fun q => (q.1.1, q.2)
  | .lzip a b, env => (ev a env).bind fun p => (ev b p.2).bind fun q => match p.1, q.1 with
    | .list xs, .list ys => some (.list (zipL xs ys), q.2)
    | _, _ => none
  | .rpr a, env => bnd1 (opd a env (ev a env)) reprF
  | .lset a, env => bnd1 (opd a env (ev a env)) lsetF
  | .blt f l, env => (evos l env).bind fun p => (rdF f p.2 p.1).bind fun ds => (bltD f ds).map fun z => (z, p.2)
  | .met m a l, env => (opd a env (ev a env)).bind fun p => (evos l p.2).bind fun q => (rdO q.2 p.1).bind fun x => if (rdO p.2 p.1).map tyN = some (tyN x) then (rdM m q.2 q.1).bind fun ds => (metD m x ds).map fun z => (z, q.2) else none
  | .comp vs g it c e, env => (evI it env).bind fun p => if vs.all (notOwn p.2) = true then
      (compL vs g (fun en => evC c en) (fun en => ev e en) p.1 [] p.2).map fun q => (.list q.1, backE p.2 q.2 vs)
    else none
def evs : MEs → En → Option (List PyData × En)
  | .nil, env => some ([], env)
  | .cons a l, env => (ev a env).bind fun p => (evs l p.2).map fun q => (p.1 :: q.1, q.2)
def evos : MEs → En → Option (List Op × En)
  | .nil, env => some ([], env)
  | .cons a l, env => (opd a env (ev a env)).bind fun p => (evos l p.2).map fun q => (p.1 :: q.1, q.2)
def evO : MO → En → Option (Option Int × En)
  | .no, env => some (none, env)
  | .so a, env => (ev a env).bind fun p => (asInt p.1).map fun i => (some i, p.2)
def evC : MO → En → Option (Bool × En)
  | .no, env => some (true, env)
  | .so a, env => tstO (opd a env (ev a env))
def evI : MI → En → Option (List PyData × En)
  | .seq a, env => (ev a env).bind fun p => (seqItems p.1).map fun ds => (ds, p.2)
  | .rng a, env => (ev a env).bind fun p => match p.1 with
    | .int j => if -(2 ^ 62) ≤ j ∧ j < 2 ^ 62 then some (intsFrom 0 j.toNat, p.2) else none
    | _ => none
  | .rng2 a b, env => (ev a env).bind fun p => (ev b p.2).bind fun q => match p.1, q.1 with
    | .int i, .int j => if -(2 ^ 62) ≤ i ∧ i < 2 ^ 62 ∧ -(2 ^ 62) ≤ j ∧ j < 2 ^ 62 then some (intsFrom i (j - i).toNat, q.2) else none
    | _, _ => none
  | .enu a, env => (ev a env).bind fun p => (ltItems p.1).map fun ds => (enumL 0 ds, p.2)
  | .zip a b, env => (ev a env).bind fun p => (ev b p.2).bind fun q => (ltItems p.1).bind fun xs => (ltItems q.1).map fun ys => (zipL xs ys, q.2)
end
end
/-- is what comes a list that nobody else holds? -/
def frME : ME → PyData → Bool
  | .lst _, .list _ => true
  | .comp .., .list _ => true
  | .lzip _ _, .list _ => true
  | .slc .., .list _ => true
  | .rev _, .list _ => true
  | .bin .Add _ _, .list _ => true
  | .blt .listOf _, .list _ => true
  | .met .split _ _, .list _ => true
  | .dct0, _ => true
  | _, _ => false
def toSl (fr : Bool) (d : PyData) : Sl := match fr, d with
  | true, .list ds => .own ds
  | true, .dict ds => .owd ds
  | _, d => .val d

/-- what an expression gives, and whether it is new -/
def evF (Φ : Fns) (io : Nat → List Pk) (e : ME) (env : En) : Option ((PyData × Bool) × En) := match e with
  | .call f l lk kw => (evos Φ io l env).bind fun p => (evos Φ io lk p.2).bind fun q => (place kw (p.1 ++ q.1)).bind fun os => callM Φ io f os q.2
  | .callT f g l => (evos Φ io l env).bind fun p => (callM Φ io g p.1 p.2).bind fun q => callTM Φ io f q
  | e => (ev Φ io e env).map fun p => ((p.1, frME e p.1), p.2)

/-! ### statements -/
mutual
inductive MS where
  | asg (i : Nat) (e : ME)
  | asgs (is : List Nat) (es : MEs)
  | asgT (l : MTs) (e : ME)
  | put (i : Nat) (k e : ME)
  | app (i : Nat) (e : ME)
  | ext (i : Nat) (e : ME)
  | exp (e : ME)
  | ifs (c : ME) (a b : MSs)
  | for_ (g : MG) (it : MI) (b : MSs)
  | whl (c : ME) (b : MSs)
  | ret (e : ME) | retN | brk | cnt | pas | bad
inductive MSs where
  | nil | cons (s : MS) (l : MSs)
inductive MT where
  | nm (i : Nat) | sb (i : Nat) (k : ME)
inductive MTs where
  | nil | cons (t : MT) (l : MTs)
end
inductive Fl where
  | nx | rt (d : PyData) (fr : Bool) | bk | ct
def putS (s : Sl) (k d : PyData) : Option Sl := match s with
  | .own ds => match k with
    | .int i => (ixN ds.length i).map fun j => .own (ds.set j d)
    | _ => none
  | .owd kvs => match keyOf k with
    | some _ => if kvs.length < lim then some (.owd (putD kvs k d)) else none
    | none => match kvs, nkT k with
      | [], some _ => some (.owt [(k, d)])
      | _, _ => none
  | .owt kvs => (nkT k).bind fun _ => if kvs.length < lim then some (.owt (putD kvs k d)) else none
  | _ => none
def forL (g : MG) (body : En → Option (Fl × En)) : List PyData → En → Option (Fl × En)
  | [], env => some (.nx, env)
  | x :: xs, env => (bindT g x env).bind fun env1 => (body env1).bind fun p => match p.1 with
    | .nx => forL g body xs p.2
    | .ct => forL g body xs p.2
    | .bk => some (.nx, p.2)
    | .rt d fr => some (.rt d fr, p.2)
def whlL (c : En → Option (Bool × En)) (body : En → Option (Fl × En)) : Nat → En → Option (Fl × En)
  | 0, _ => none
  | n + 1, env => (c env).bind fun p => if p.1 = true then (body p.2).bind fun q => match q.1 with
      | .nx => whlL c body n q.2
      | .ct => whlL c body n q.2
      | .bk => some (.nx, q.2)
      | .rt d fr => some (.rt d fr, q.2)
    else some (.nx, p.2)
def gOk (ro : List Nat) : MG → Bool
  | .nm i => decide (i ∉ ro)
  | .tp is => is.all fun i => decide (i ∉ ro)
def asgAll : List Nat → List (PyData × Bool) → En → Option En
  | [], [], env => some env
  | i :: is, p :: ps, env => asgAll is ps (env.set i (toSl p.2 p.1))
  | _, _, _ => none
def isOwnS (env : En) (i : Nat) : Bool := match env[i]? with
  | some (.own _) => true
  | some (.owd _) => true
  | some (.owt _) => true
  | _ => false
def setSl (env : En) (i : Nat) (s : Sl) : Option En := if i < env.length then some (env.set i s) else none
section
variable (Φ : Fns) (io : Nat → List Pk) (ro : List Nat)
/-- the values of a display, each with whether it is a new list -/
def evsF : MEs → En → Option (List (PyData × Bool) × En)
  | .nil, env => some ([], env)
  | .cons a l, env => (evF Φ io a env).bind fun p => (evsF l p.2).map fun q => (p.1 :: q.1, q.2)
def exT : MTs → List PyData → En → Option En
  | .nil, [], env => some env
  | .cons (.nm i) l, d :: ds, env => if i ∉ ro then exT l ds (env.set i (.val d)) else none
  | .cons (.sb i k) l, d :: ds, env => if isOwnS env i = true then (ev Φ io k env).bind fun p => (p.2[i]?).bind fun s => (putS s p.1 d).bind fun s' => exT l ds (p.2.set i s') else none
  | _, _, _ => none
/-- return e: an own list of the body goes out as it is -/
def exR (e : ME) (env : En) : Option (Fl × En) := match e with
  | .var i => if i ∉ ro then match env[i]? with
      | some (.own ds) => some (.rt (.list ds) true, env.set i .un)
      | some (.owd ds) => some (.rt (.dict ds) true, env.set i .un)
      | _ => (evVar i env).map fun p => (.rt p.1 false, p.2)
    else (evVar i env).map fun p => (.rt p.1 false, p.2)
  | e => (evF Φ io e env).map fun p => (.rt p.1.1 p.1.2, p.2)
mutual
def ex : MS → En → Option (Fl × En)
  | .asg i e, env => if i ∉ ro then (evF Φ io e env).map fun p => (.nx, p.2.set i (toSl p.1.2 p.1.1)) else none
  | .asgs is es, env => if is.all (fun i => decide (i ∉ ro)) = true then (evsF Φ io es env).bind fun p => (asgAll is p.1 p.2).map fun e => (.nx, e) else none
  | .asgT l e, env => (ev Φ io e env).bind fun p => match p.1 with
    | .tuple ds => (exT Φ io ro l ds p.2).map fun e => (.nx, e)
    | _ => none
  | .put i k e, env => (ev Φ io e env).bind fun p => if isOwnS p.2 i = true then (ev Φ io k p.2).bind fun q => (q.2[i]?).bind fun s => (putS s q.1 p.1).map fun s' => (.nx, q.2.set i s') else none
  | .app i e, env => if isOwnL env i = true then (ev Φ io e env).bind fun p => match p.2[i]? with
      | some (.own ds) => if ds.length < lim then some (.nx, p.2.set i (.own (ds ++ [p.1]))) else none
      | _ => none
    else none
  | .ext i e, env => if isOwnL env i = true then (ev Φ io e env).bind fun p => match p.2[i]?, p.1 with
      | some (.own ds), .list es => if ds.length + es.length ≤ lim then some (.nx, p.2.set i (.own (ds ++ es))) else none
      | _, _ => none
    else none
  | .exp e, env => (ev Φ io e env).map fun p => (.nx, p.2)
  | .ifs c a b, env => (tstO (opd c env (ev Φ io c env))).bind fun p => if p.1 = true then exs a p.2 else exs b p.2
  | .for_ g it b, env => if gOk ro g = true then (evI Φ io it env).bind fun p => forL g (fun e => exs b e) p.1 p.2 else none
  | .whl c b, env => whlL (fun e => tstO (opd c e (ev Φ io c e))) (fun e => exs b e) 100000 env
  | .ret e, env => exR Φ io ro e env
  | .retN, env => some (.rt .none false, env)
  | .brk, env => some (.bk, env)
  | .cnt, env => some (.ct, env)
  | .pas, env => some (.nx, env)
  | .bad, _ => none
def exs : MSs → En → Option (Fl × En)
  | .nil, env => some (.nx, env)
  | .cons s l, env => (ex s env).bind fun p => match p.1 with
    | .nx => exs l p.2
    | f => some (f, p.2)
end
end

/-! ### defs -/
structure FI where
  name : Str
  /-- parameters; all slots, parameters first; which parameters are changed -/
  ps : List Str
  N : List Str
  io : List Pk
  body : MSs
def ioIx : List Pk → Nat → List Nat
  | [], _ => []
  | .io :: r, k => k :: ioIx r (k + 1)
  | _ :: r, k => ioIx r (k + 1)
def startE : List Pk → List PyData → Nat → Option En
  | [], [], n => some (List.replicate n .un)
  | .io :: r, .list ds :: t, n => (startE r t n).map (.own ds :: ·)
  | .sc :: r, .list ds :: t, n => (startE r t n).map (.scr ds :: ·)
  | .v :: r, d :: t, n => (startE r t n).map (.val d :: ·)
  | _, _, _ => none
def outsOf (env : En) : List Nat → Option (List (List PyData))
  | [] => some []
  | i :: is => match env[i]? with
    | some (.own ds) => (outsOf env is).map (ds :: ·)
    | _ => none
def runD (Φ : Fns) (io : Nat → List Pk) (fi : FI) (ds : List PyData) : Option ((PyData × Bool) × List (List PyData)) :=
  if fi.io.length = fi.ps.length ∧ fi.ps.length ≤ fi.N.length then
    (startE fi.io ds (fi.N.length - fi.ps.length)).bind fun env => (exs Φ io (ioIx fi.io 0) fi.body env).bind fun p =>
      (outsOf p.2 (ioIx fi.io 0)).bind fun outs => match p.1 with
        | .rt d fr => some ((d, fr), outs)
        | .nx => some ((.none, false), outs)
        | _ => none
  else none
/-- an entry: a def of the text, or one told by hand -/
inductive FE where
  | code (fi : FI) | hand (io : List Pk) (g : Fns → (Nat → List Pk) → List PyData → Option ((PyData × Bool) × List (List PyData)))
def FE.io : FE → List Pk
  | .code fi => fi.io
  | .hand io _ => io
def ioOf (T : List FE) (f : Nat) : List Pk := match T[f]? with
  | some fi => fi.io
  | none => []
def run (T : List FE) : Nat → Fns
  | 0, _, _ => none
  | n + 1, f, ds => (T[f]?).bind fun fe => match fe with
    | .code fi => runD (run T n) (ioOf T) fi ds
    | .hand _ g => g (run T n) (ioOf T) ds
end Mi

set_option maxHeartbeats 2000000
/-! D4: what the evaluator says is so in the model: judgements, and the rules for expressions. -/
namespace Mi
open PySem PySem.Spec PyProof.Rows L2

/-! ### readings at their widest -/
def WE (X : Cx) (e : Expr) : TE := fun σ H Q => ∀ (pins : List (Addr × Obj)) (s : Shared), Inv X pins σ H s → wpAny (model X.prog X.w) X.A (eval e X.env) (EP X pins σ Q) X.xe s
def WT (X : Cx) (e : Expr) : TT := fun σ H Q => ∀ (pins : List (Addr × Obj)) (s : Shared), Inv X pins σ H s → wpAny (model X.prog X.w) X.A (isTrue e X.env (eval e X.env)) (TP X pins σ Q) X.xe s
def WW (X : Cx) (e : Expr) : TT := fun σ H Q => ∀ (whole : Sem Value) (pins : List (Addr × Obj)) (s : Shared), Inv X pins σ H s → wpAny (model X.prog X.w) X.A (isTrue e X.env whole) (TP X pins σ Q) X.xe s
def WA (X : Cx) (es : List Expr) : TA := fun σ H Q => ∀ (pos : Pos) (pins : List (Addr × Obj)) (s : Shared), Inv X pins σ H s → wpAny (model X.prog X.w) X.A (spliced (backTo pos (starEach es X.env))) (AP X pins σ Q) X.xe s
def WP (X : Cx) (e : Option Expr) : TO := fun σ H Q => ∃ t, PO X e t ∧ t σ H Q
section
variable {X : Cx}
theorem pe_we (e : Expr) : PE X e (WE X e) := ⟨fun pins s _ _ _ I h => h pins s I⟩
theorem pt_wt (e : Expr) : PT X e (WT X e) := ⟨fun pins s _ _ _ I h => h pins s I⟩
theorem pw_ww (e : Expr) : PW X e (WW X e) := ⟨fun wh pins s _ _ _ I h => h wh pins s I⟩
theorem pa_wa (es : List Expr) : PA X es (WA X es) := ⟨fun pos pins s _ _ _ I h => h pos pins s I⟩
theorem we_of {e : Expr} {t : TE} (h : PE X e t) {σ : L2.St} {H : Hp} {Q : VK} (q : t σ H Q) : WE X e σ H Q := fun pins s I => h.run pins s σ H Q I q
theorem wt_of {e : Expr} {t : TT} (h : PT X e t) {σ : L2.St} {H : Hp} {Q : Bool → Hp → Prop} (q : t σ H Q) : WT X e σ H Q := fun pins s I => h.run pins s σ H Q I q
theorem ww_of {e : Expr} {t : TT} (h : PW X e t) {σ : L2.St} {H : Hp} {Q : Bool → Hp → Prop} (q : t σ H Q) : WW X e σ H Q := fun wh pins s I => h.run wh pins s σ H Q I q
theorem wa_of {es : List Expr} {t : TA} (h : PA X es t) {σ : L2.St} {H : Hp} {Q : List V → Hp → Prop} (q : t σ H Q) : WA X es σ H Q := fun pos pins s I => h.run pos pins s σ H Q I q
end

/-! ### what a value is, new or frozen -/
def Rz (K : PySem.W.Frag) (b : Bs) (F : Hp) (σ : L2.St) (H : Hp) (env : En) (v : V) (d : PyData) : Bool → Prop
  | false => Rv K F v d
  | true => match d with
    | .list ds => ∃ p vs, v = .ref p ∧ F p = none ∧ b.B p = none ∧ ¬ OwnP env σ p ∧ H p = some (.lst vs) ∧ RvAll K F vs ds
    | .dict ds => ∃ p vs, v = .ref p ∧ F p = none ∧ b.B p = none ∧ ¬ OwnP env σ p ∧ H p = some (.dK vs) ∧ RvKV K F vs ds
    | _ => Rv K F v d
def BE (X : Cx) (b : Bs) (e : Expr) (env : En) (d : PyData) (fr : Bool) (env' : En) : Prop :=
  ∀ F σ H, Stt X.K b F σ H env → ∀ Q : VK, (∀ v F' H', Same F F' → Stt X.K b F' σ H' env' → Rz X.K b F' σ H' env' v d fr → Q v H') → WE X e σ H Q
def BT (X : Cx) (b : Bs) (e : Expr) (env : En) (t : Bool) (env' : En) : Prop :=
  ∀ F σ H, Stt X.K b F σ H env → ∀ Q : Bool → Hp → Prop, (∀ F' H', Same F F' → Stt X.K b F' σ H' env' → Q t H') → WT X e σ H Q
def BW (X : Cx) (b : Bs) (e : Expr) (env : En) (t : Bool) (env' : En) : Prop :=
  ∀ F σ H, Stt X.K b F σ H env → ∀ Q : Bool → Hp → Prop, (∀ F' H', Same F F' → Stt X.K b F' σ H' env' → Q t H') → WW X e σ H Q
def OpOk (K : PySem.W.Frag) (F : Hp) (σ : L2.St) (v : V) : Op → Prop
  | .dt d => Rv K F v d
  | .sl i => σ[i]? = some (some v)
def BO (X : Cx) (b : Bs) (e : Expr) (env : En) (o : Op) (env' : En) : Prop :=
  ∀ F σ H, Stt X.K b F σ H env → ∀ Q : VK, (∀ v F' H', Same F F' → Stt X.K b F' σ H' env' → OpOk X.K F' σ v o → Q v H') → WE X e σ H Q
inductive OpsOk (K : PySem.W.Frag) (F : Hp) (σ : L2.St) : List V → List Op → Prop
  | nil : OpsOk K F σ [] []
  | cons {v : V} {vs : List V} {o : Op} {os : List Op} : OpOk K F σ v o → OpsOk K F σ vs os → OpsOk K F σ (v :: vs) (o :: os)
def BA (X : Cx) (b : Bs) (es : List Expr) (env : En) (ds : List PyData) (env' : En) : Prop :=
  ∀ F σ H, Stt X.K b F σ H env → ∀ Q : List V → Hp → Prop, (∀ vs F' H', Same F F' → Stt X.K b F' σ H' env' → RvAll X.K F' vs ds → Q vs H') → WA X es σ H Q
def BAO (X : Cx) (b : Bs) (es : List Expr) (env : En) (os : List Op) (env' : En) : Prop :=
  ∀ F σ H, Stt X.K b F σ H env → ∀ Q : List V → Hp → Prop, (∀ vs F' H', Same F F' → Stt X.K b F' σ H' env' → OpsOk X.K F' σ vs os → Q vs H') → WA X es σ H Q

/-- what an operand reads as, where it stands: in the frozen heap, or at an own place with frozen items -/
inductive RS (K : PySem.W.Frag) (F H : Hp) : V → PyData → Prop
  | fz {v : V} {d : PyData} : Rv K F v d → RS K F H v d
  | ol {p : Addr} {vs : List V} {ds : List PyData} : H p = some (.lst vs) → RvAll K F vs ds → RS K F H (.ref p) (.list ds)
  | od {p : Addr} {vs : List (Key × V)} {ds : List (PyData × PyData)} : H p = some (.dK vs) → RvKV K F vs ds → RS K F H (.ref p) (.dict ds)
/-- .. or the script -/
inductive RSs (K : PySem.W.Frag) (F H : Hp) : V → PyData → Prop
  | rs {v : V} {d : PyData} : RS K F H v d → RSs K F H v d
  | sc {p : Addr} {vs : List V} {ds : List PyData} : SqL K H p vs → RvAll K F vs ds → RSs K F H (.ref p) (.list ds)
section
variable {K : PySem.W.Frag} {b : Bs} {F F' : Hp} {σ : L2.St} {H H' : Hp} {env : En}
theorem OpOk.mono (e : Same F F') {v : V} {o : Op} (h : OpOk K F σ v o) : OpOk K F' σ v o := by
  cases o with
  | dt d => exact Rv.mono e h
  | sl i => exact h
theorem OpsOk.mono (e : Same F F') {vs : List V} {os : List Op} (h : OpsOk K F σ vs os) : OpsOk K F' σ vs os := by
  induction h with
  | nil => exact .nil
  | cons h _ ih => exact .cons (h.mono e) ih
theorem Stt.rd (S : Stt K b F σ H env) {v : V} {o : Op} {d : PyData} (h : OpOk K F σ v o) (r : rdO env o = some d) : RS K F H v d := by
  cases o with
  | dt d' => cases r; exact .fz h
  | sl i =>
    have r' : (env[i]?).bind slD = some d := r
    cases e : env[i]? with
    | none => rw [e] at r'; cases r'
    | some s =>
      rw [e] at r'
      have q := S.sl i s e
      have h' : σ[i]? = some (some v) := h
      cases s with
      | un => cases r'
      | val d' =>
        cases r'
        obtain ⟨v', h1, h2⟩ := q
        rw [h'] at h1; cases h1
        exact .fz h2
      | own ds =>
        cases r'
        obtain ⟨p, vs, h1, h2, _, _, h5⟩ := q
        rw [h'] at h1; cases h1
        exact .ol h2 h5
      | owd ds =>
        cases r'
        obtain ⟨p, vs, h1, h2, _, _, h5⟩ := q
        rw [h'] at h1; cases h1
        exact .od h2 h5
      | owt ds => cases r'
      | scr ds => cases r'
theorem Stt.rdS (S : Stt K b F σ H env) {v : V} {o : Op} {d : PyData} (h : OpOk K F σ v o) (r : rdS env o = some d) : RSs K F H v d := by
  cases o with
  | dt d' => cases r; exact .rs (.fz h)
  | sl i =>
    have r' : (env[i]?).bind slS = some d := r
    cases e : env[i]? with
    | none => rw [e] at r'; cases r'
    | some s =>
      have nx : (s = .scr (match s with | .scr ds => ds | _ => []) → False) → RSs K F H v d := fun hn => .rs (S.rd h (by
        show (env[i]?).bind slD = some d
        rw [e] at r' ⊢
        cases s with
        | scr ds => exact (hn rfl).elim
        | un => exact r'
        | val d => exact r'
        | own d => exact r'
        | owd d => exact r'
        | owt d => exact r'))
      cases s with
      | scr ds =>
        rw [e] at r'
        cases r'
        obtain ⟨p, vs, h1, h2, h3⟩ := S.sl i _ e
        have h' : σ[i]? = some (some v) := h
        rw [h'] at h1; cases h1
        exact .sc (same_l S.fh h2) h3
      | un => exact nx fun z => nomatch z
      | val d => exact nx fun z => nomatch z
      | own d => exact nx fun z => nomatch z
      | owd d => exact nx fun z => nomatch z
      | owt d => exact nx fun z => nomatch z
theorem RS.rv (e : Same F H) {v : V} {d : PyData} (h : RS K F H v d) : Rv K H v d := by
  cases h with
  | fz h => exact h.mono e
  | ol h r => exact .lst h (r.mono e)
  | od h r => exact .dct h (r.mono e)
theorem RS.lstH {v : V} {ds : List PyData} (e : Same F H) (h : RS K F H v (.list ds)) : ∃ p vs, v = .ref p ∧ H p = some (.lst vs) ∧ RvAll K F vs ds := by
  cases h with
  | fz h => cases h with | lst h r => exact ⟨_, _, rfl, e _ _ h, r⟩
  | ol h r => exact ⟨_, _, rfl, h, r⟩
theorem RS.seqL {v : V} {ds : List PyData} (e : Same F H) (h : RS K F H v (.list ds)) : ∃ p vs, v = .ref p ∧ SqL K H p vs ∧ RvAll K F vs ds := by
  cases h with
  | fz h => cases h with | lst h r => exact ⟨_, _, rfl, SqL.of (e _ _ h), r⟩
  | ol h r => exact ⟨_, _, rfl, SqL.of h, r⟩
theorem RSs.seqL {v : V} {ds : List PyData} (e : Same F H) (h : RSs K F H v (.list ds)) : ∃ p vs, v = .ref p ∧ SqL K H p vs ∧ RvAll K F vs ds := by
  cases h with
  | rs h => exact h.seqL e
  | sc h r => exact ⟨_, _, rfl, h, r⟩
theorem RSs.rs_of {v : V} {d : PyData} (h : RSs K F H v d) (n : ∀ ds, d ≠ .list ds) : RS K F H v d := by
  cases h with
  | rs h => exact h
  | sc h r => exact (n _ rfl).elim
theorem RS.seqT {v : V} {ds : List PyData} (e : Same F H) (h : RS K F H v (.tuple ds)) : ∃ p vs, v = .ref p ∧ SqT K H p vs ∧ RvAll K F vs ds := by
  cases h with
  | fz h => cases h with | tup h r => exact ⟨_, _, rfl, same_t e h, r⟩
theorem RS.dctK {v : V} {ds : List (PyData × PyData)} (e : Same F H) (h : RS K F H v (.dict ds)) : ∃ p vs, v = .ref p ∧ H p = some (.dK vs) ∧ RvKV K F vs ds := by
  cases h with
  | fz h => cases h with | dct h r => exact ⟨_, _, rfl, e _ _ h, r⟩
  | od h r => exact ⟨_, _, rfl, h, r⟩
theorem RS.of_int {v : V} {i : Int} (h : RS K F H v (.int i)) : v = .int i := by cases h with | fz h => cases h; rfl
theorem RS.of_str {v : V} {x : Str} (h : RS K F H v (.str x)) : v = .str x := by cases h with | fz h => cases h; rfl
theorem RS.of_bool {v : V} {x : Bool} (h : RS K F H v (.bool x)) : v = .bl x := by cases h with | fz h => cases h; rfl
theorem RS.of_none {v : V} (h : RS K F H v .none) : v = .non := by cases h with | fz h => cases h; rfl
/-- a new value, frozen -/
theorem Rz.freeze (S : Stt K b F σ H env) {v : V} {d : PyData} {fr : Bool} (h : Rz K b F σ H env v d fr) : ∃ F', Same F F' ∧ Stt K b F' σ H env ∧ Rv K F' v d := by
  cases fr with
  | false => exact ⟨F, Same.refl F, S, h⟩
  | true =>
    cases d with
    | list ds =>
      obtain ⟨p, vs, rfl, h1, h2, h3, h4, h5⟩ := h
      exact ⟨_, Same.new h1, S.freezeP h4 h1 h2 h3, .lst upd_same (h5.mono (Same.new h1))⟩
    | dict ds =>
      obtain ⟨p, vs, rfl, h1, h2, h3, h4, h5⟩ := h
      exact ⟨_, Same.new h1, S.freezeP h4 h1 h2 h3, .dct upd_same (h5.mono (Same.new h1))⟩
    | none => exact ⟨F, Same.refl F, S, h⟩
    | bool x => exact ⟨F, Same.refl F, S, h⟩
    | int x => exact ⟨F, Same.refl F, S, h⟩
    | str x => exact ⟨F, Same.refl F, S, h⟩
    | tuple x => exact ⟨F, Same.refl F, S, h⟩
end
section
variable {X : Cx} {b : Bs} {e : Expr} {env env' : En} {d : PyData} {fr : Bool}
theorem BE.to (h : BE X b e env d fr env') : BE X b e env d false env' := fun F σ H S Q q => h F σ H S Q fun v F' H' e1 S1 r => by
  obtain ⟨F2, e2, S2, r2⟩ := r.freeze S1
  exact q v F2 H' (e1.trans e2) S2 r2
theorem BE.bo (h : BE X b e env d fr env') : BO X b e env (.dt d) env' := fun F σ H S Q q => h.to F σ H S Q fun v F' H' e1 S1 r => q v F' H' e1 S1 r


/-! ### truth -/
theorem ne0 (n : Nat) : (!(n == 0)) = ((n : Int) != 0) := by
  cases n with
  | zero => rfl
  | succ n =>
    have : ((n + 1 : Nat) : Int) ≠ 0 := by omega
    rw [bne_iff_ne.mpr this]; rfl
theorem RS.tru {K : PySem.W.Frag} {F H : Hp} {v : V} {d : PyData} (e : Same F H) (h : RS K F H v d) : TruV K v H (truth d) := by
  have emp : ∀ {vs : List V} {ds : List PyData}, RvAll K F vs ds → (!ds.isEmpty) = !vs.isEmpty := fun r => by cases r <;> rfl
  cases d with
  | none => rw [h.of_none]; rfl
  | bool x => rw [h.of_bool]; rfl
  | int x => rw [h.of_int]; rfl
  | str x =>
    cases h with
    | fz h => cases h with | str _ hl => exact ⟨by rw [← lim_eq]; exact hl, ne0 _⟩
  | list ds =>
    obtain ⟨p, vs, rfl, h1, h2⟩ := h.seqL e
    exact Or.inl ⟨vs, h1, emp h2⟩
  | tuple ds =>
    obtain ⟨p, vs, rfl, h1, h2⟩ := h.seqT e
    exact Or.inr (Or.inl ⟨vs, h1, emp h2⟩)
  | dict ds =>
    obtain ⟨p, vs, rfl, h1, h2⟩ := h.dctK e
    exact Or.inr (Or.inr ⟨vs, h1, by cases h2 <;> rfl⟩)
/-- an operand's truth, of what is tested plainly -/
theorem BO.tru {o : Op} {d : PyData} (h : BO X b e env o env') (r : rdO env' o = some d) (he : ∀ whole, isTrue e X.env whole = (do let v ← whole; standAt e.pos; holding [v] (truthy v))) : BT X b e env (truth d) env' := fun F σ H S Q q =>
  wt_of (pt_truth (pe_we e) he) (h F σ H S _ fun v F' H' e1 S1 k => ⟨truth d, (S1.rd k r).tru S1.fh, q F' H' e1 S1⟩)

/-! ### constants, names -/
theorem be_none {j : Nat} {pos : Pos} : BE X b (.Constant .none j pos) env .none false env := fun F σ H S Q q => we_of pe_non (q _ F H (Same.refl F) S .non)
theorem be_bool {x : Bool} {j : Nat} {pos : Pos} : BE X b (.Constant (.bool x) j pos) env (.bool x) false env := fun F σ H S Q q => we_of pe_bl (q _ F H (Same.refl F) S (.bl x))
theorem be_int {i : Int} {j : Nat} {pos : Pos} : BE X b (.Constant (.int i) j pos) env (.int i) false env := fun F σ H S Q q => we_of pe_int (q _ F H (Same.refl F) S (.int i))
theorem be_str {x : Str} {j : Nat} {pos : Pos} (hl : x.length ≤ lim) : BE X b (.Constant (.str x) j pos) env (.str x) false env := fun F σ H S Q q => we_of pe_str (q _ F H (Same.refl F) S (.str x hl))
/-- a scalar as it stands -/
inductive Sc : V → PyData → Prop
  | non : Sc .non .none
  | bl (b : Bool) : Sc (.bl b) (.bool b)
  | int (i : Int) : Sc (.int i) (.int i)
  | str (x : Str) (h : x.length ≤ lim) : Sc (.str x) (.str x)
theorem Sc.rv {K : PySem.W.Frag} {F : Hp} {v : V} (h : Sc v d) : Rv K F v d := by
  cases h with
  | non => exact .non
  | bl b => exact .bl b
  | int i => exact .int i
  | str x h => exact .str x h
theorem be_glob {x : Str} {v : V} {u : Value} {pos : Pos} (hg : Gl X x) (hm : X.mg x = some u) (r : RelV v u) (hs : Sc v d) (hd : (x == ("__debug__" : Str)) = false) : BE X b (.Name x pos) env d false env :=
  fun F σ H S Q q => we_of (pe_glob hg hm r hd) (q _ F H (Same.refl F) S hs.rv)
section
variable {i : Nat} {x : Str} {pos : Pos} (hN : X.N[i]? = some x) (hv : Vis X.env.scope x) (hd : (x == ("__debug__" : Str)) = false) (hcd : (x == ("__classdict__" : Str)) = false)
include hN hv hd hcd
theorem be_var (h : evVar i env = some (d, env')) : BE X b (.Name x pos) env d false env' := by
  unfold evVar at h
  intro F σ H S Q q
  refine we_of (pe_var hN hv hd hcd) ?_
  cases e : env[i]? with
  | none => rw [e] at h; cases h
  | some s =>
    rw [e] at h
    cases s with
    | un => cases h
    | val d' =>
      cases h
      obtain ⟨v, h1, h2⟩ := S.sl i _ e
      exact ⟨v, h1, q v F H (Same.refl F) S h2⟩
    | own ds =>
      cases h
      obtain ⟨p, vs, h1, h2, h3, h4, h5, S1⟩ := S.freezeL e
      exact ⟨_, h1, q _ _ H (Same.new h3) S1 (.lst upd_same (h5.mono (Same.new h3)))⟩
    | owd ds =>
      cases h
      obtain ⟨p, vs, h1, h2, h3, h4, h5, S1⟩ := S.freezeD e
      exact ⟨_, h1, q _ _ H (Same.new h3) S1 (.dct upd_same (h5.mono (Same.new h3)))⟩
    | owt ds => cases h
    | scr ds => cases h
theorem bo_var {o : Op} {r : Option (PyData × En)} (h : opd (.var i) env r = some (o, env')) : BO X b (.Name x pos) env o env' := by
  intro F σ H S Q q
  refine we_of (pe_var hN hv hd hcd) ?_
  have h' : (match env[i]? with | some (.val d) => some (Op.dt d, env) | some (.own _) => some (.sl i, env) | some (.owd _) => some (.sl i, env) | some (.owt _) => some (.sl i, env) | some (.scr _) => some (.sl i, env) | _ => none) = some (o, env') := h
  cases e : env[i]? with
  | none => rw [e] at h'; cases h'
  | some s =>
    rw [e] at h'
    cases s with
    | un => cases h'
    | val d' =>
      cases h'
      obtain ⟨v, h1, h2⟩ := S.sl i _ e
      exact ⟨v, h1, q v F H (Same.refl F) S h2⟩
    | own ds =>
      cases h'
      obtain ⟨p, vs, h1, _⟩ := S.sl i _ e
      exact ⟨_, h1, q _ F H (Same.refl F) S h1⟩
    | owd ds =>
      cases h'
      obtain ⟨p, vs, h1, _⟩ := S.sl i _ e
      exact ⟨_, h1, q _ F H (Same.refl F) S h1⟩
    | owt ds =>
      cases h'
      obtain ⟨p, vs, h1, _⟩ := S.sl i _ e
      exact ⟨_, h1, q _ F H (Same.refl F) S h1⟩
    | scr ds =>
      cases h'
      obtain ⟨p, vs, h1, _⟩ := S.sl i _ e
      exact ⟨_, h1, q _ F H (Same.refl F) S h1⟩
end

/-! ### not, and, or, if -/
theorem bt_not {a : Expr} {pos : Pos} {t : Bool} (h : BT X b a env t env') : BT X b (.UnaryOp .Not a pos) env (!t) env' := fun F σ H S Q q =>
  wt_of (pt_not (pt_wt a)) (h F σ H S _ fun F' H' e1 S1 => q F' H' e1 S1)
theorem be_notO {a : Expr} {pos : Pos} {o : Op} (h : BO X b a env o env') (r : rdO env' o = some d) : BE X b (.UnaryOp .Not a pos) env (.bool (!truth d)) false env' := fun F σ H S Q q =>
  we_of (pe_notT (pe_we a)) (h F σ H S _ fun v F' H' e1 S1 k => ⟨truth d, (S1.rd k r).tru S1.fh, q _ F' H' e1 S1 (.bl _)⟩)
section
variable {a c : Expr} {rest : List Expr} {pos : Pos} {env1 : En} {d1 d2 : PyData} {t u : Bool}
theorem be_one {op : BoolOp} (h : BE X b a env d false env') : BE X b (.BoolOp op [a] pos) env d false env' := fun F σ H S Q q => we_of (pe_one (pe_we a)) (h F σ H S Q q)
theorem be_and1 (h1 : BE X b a env d1 false env1) (ht : truth d1 = true) (h2 : BE X b (.BoolOp .And (c :: rest) pos) env1 d2 false env') : BE X b (.BoolOp .And (a :: c :: rest) pos) env d2 false env' := fun F σ H S Q q =>
  we_of (pe_andT (pe_we a) (pe_we _)) (h1 F σ H S _ fun v F' H' e1 S1 k => ⟨true, by rw [← ht]; exact (RS.fz k).tru S1.fh, iteT (h2 F' σ H' S1 Q fun v F2 H2 e2 S2 k2 => q v F2 H2 (e1.trans e2) S2 k2)⟩)
theorem be_and0 (h1 : BE X b a env d1 false env1) (ht : truth d1 = false) : BE X b (.BoolOp .And (a :: c :: rest) pos) env d1 false env1 := fun F σ H S Q q =>
  we_of (pe_andT (pe_we a) (pe_we _)) (h1 F σ H S _ fun v F' H' e1 S1 k => ⟨false, by rw [← ht]; exact (RS.fz k).tru S1.fh, iteF (q v F' H' e1 S1 k)⟩)
theorem be_or1 (h1 : BE X b a env d1 false env1) (ht : truth d1 = true) : BE X b (.BoolOp .Or (a :: c :: rest) pos) env d1 false env1 := fun F σ H S Q q =>
  we_of (pe_orT (pe_we a) (pe_we _)) (h1 F σ H S _ fun v F' H' e1 S1 k => ⟨true, by rw [← ht]; exact (RS.fz k).tru S1.fh, iteT (q v F' H' e1 S1 k)⟩)
theorem be_or0 (h1 : BE X b a env d1 false env1) (ht : truth d1 = false) (h2 : BE X b (.BoolOp .Or (c :: rest) pos) env1 d2 false env') : BE X b (.BoolOp .Or (a :: c :: rest) pos) env d2 false env' := fun F σ H S Q q =>
  we_of (pe_orT (pe_we a) (pe_we _)) (h1 F σ H S _ fun v F' H' e1 S1 k => ⟨false, by rw [← ht]; exact (RS.fz k).tru S1.fh, iteF (h2 F' σ H' S1 Q fun v F2 H2 e2 S2 k2 => q v F2 H2 (e1.trans e2) S2 k2)⟩)
theorem bw_and (h : BT X b a env t env') : BW X b (.BoolOp .And [a] pos) env t env' := fun F σ H S Q q => ww_of (pw_and1 (pt_wt a)) (h F σ H S Q q)
theorem bw_or (h : BT X b a env t env') : BW X b (.BoolOp .Or [a] pos) env t env' := fun F σ H S Q q => ww_of (pw_or1 (pt_wt a)) (h F σ H S Q q)
theorem bw_and1 (h1 : BT X b a env true env1) (h2 : BW X b (.BoolOp .And (c :: rest) pos) env1 u env') : BW X b (.BoolOp .And (a :: c :: rest) pos) env u env' := fun F σ H S Q q =>
  ww_of (pw_and (pt_wt a) (pw_ww _)) (h1 F σ H S _ fun F' H' e1 S1 => iteT (h2 F' σ H' S1 Q fun F2 H2 e2 S2 => q F2 H2 (e1.trans e2) S2))
theorem bw_and0 (h1 : BT X b a env false env1) : BW X b (.BoolOp .And (a :: c :: rest) pos) env false env1 := fun F σ H S Q q =>
  ww_of (pw_and (pt_wt a) (pw_ww _)) (h1 F σ H S _ fun F' H' e1 S1 => iteF (q F' H' e1 S1))
theorem bw_or1 (h1 : BT X b a env true env1) : BW X b (.BoolOp .Or (a :: c :: rest) pos) env true env1 := fun F σ H S Q q =>
  ww_of (pw_or (pt_wt a) (pw_ww _)) (h1 F σ H S _ fun F' H' e1 S1 => iteT (q F' H' e1 S1))
theorem bw_or0 (h1 : BT X b a env false env1) (h2 : BW X b (.BoolOp .Or (c :: rest) pos) env1 u env') : BW X b (.BoolOp .Or (a :: c :: rest) pos) env u env' := fun F σ H S Q q =>
  ww_of (pw_or (pt_wt a) (pw_ww _)) (h1 F σ H S _ fun F' H' e1 S1 => iteF (h2 F' σ H' S1 Q fun F2 H2 e2 S2 => q F2 H2 (e1.trans e2) S2))
theorem BW.bt {e : Expr} (h : BW X b e env t env') : BT X b e env t env' := fun F σ H S Q q => fun pins s I => h F σ H S Q q _ pins s I
theorem be_if {e1 e2 : Expr} (hc : BT X b c env t env1) (h1 : t = true → BE X b e1 env1 d false env') (h2 : t = false → BE X b e2 env1 d false env') : BE X b (.IfExp c e1 e2 pos) env d false env' := fun F σ H S Q q =>
  we_of (pe_ifExp (pt_wt c) (pe_we e1) (pe_we e2)) (hc F σ H S _ fun F' H' k S1 => by
    cases t with
    | true => exact iteT (h1 rfl F' σ H' S1 Q fun v F2 H2 k2 S2 r => q v F2 H2 (k.trans k2) S2 r)
    | false => exact iteF (h2 rfl F' σ H' S1 Q fun v F2 H2 k2 S2 r => q v F2 H2 (k.trans k2) S2 r))
end
end
end Mi

set_option maxHeartbeats 2000000
/-! D5: operators, comparisons, subscripts, slices, by values. -/
namespace Mi
open PySem PySem.Spec PyProof.Rows L2

/-- an operation on two values, as data -/
def OpD (X : Cx) (r : R2) (env : En) (x y z : PyData) (fr : Bool) : Prop :=
  ∀ b F σ H va vb, Stt X.K b F σ H env → RS X.K F H va x → RS X.K F H vb y → ∀ Q : VK, (∀ v F' H', Same F F' → Stt X.K b F' σ H' env → Rz X.K b F' σ H' env v z fr → Q v H') → r va vb H Q
section
variable {X : Cx} {b : Bs} {a c : Expr} {pos : Pos} {env e1 e2 : En} {oa ob : Op} {x y z : PyData} {fr : Bool} {r : R2}
theorem be_op2 {op : Operator} (ho : OpR X (binaryOp op) r) (ha : BO X b a env oa e1) (hb : BO X b c e1 ob e2) (rx : rdO e2 oa = some x) (ry : rdO e2 ob = some y) (h : OpD X r e2 x y z fr) : BE X b (.BinOp a op c pos) env z fr e2 := fun F σ H S Q q =>
  we_of (pe_op ho (pe_we a) (pe_we c)) (ha F σ H S _ fun va F1 H1 k1 S1 o1 => hb F1 σ H1 S1 _ fun vb F2 H2 k2 S2 o2 =>
    h b F2 σ H2 va vb S2 (S2.rd (o1.mono k2) rx) (S2.rd o2 ry) Q fun v F3 H3 k3 S3 rz => q v F3 H3 (k1.trans (k2.trans k3)) S3 rz)
theorem be_cmp2 {op : CmpOp} (ho : OpR X (compareOp op) r) (ha : BO X b a env oa e1) (hb : BO X b c e1 ob e2) (rx : rdO e2 oa = some x) (ry : rdO e2 ob = some y) (h : OpD X r e2 x y z fr) (hm : behindInMarks op c = false) : BE X b (.Compare a [op] [c] pos) env z fr e2 := fun F σ H S Q q =>
  we_of (pe_cmpR ho (pe_we a) (pe_we c) hm) (ha F σ H S _ fun va F1 H1 k1 S1 o1 => hb F1 σ H1 S1 _ fun vb F2 H2 k2 S2 o2 =>
    h b F2 σ H2 va vb S2 (S2.rd (o1.mono k2) rx) (S2.rd o2 ry) Q fun v F3 H3 k3 S3 rz => q v F3 H3 (k1.trans (k2.trans k3)) S3 rz)
theorem bt_cmp2 {op : CmpOp} {t : Bool} (ho : OpR X (compareOp op) r) (ha : BO X b a env oa e1) (hb : BO X b c e1 ob e2) (rx : rdO e2 oa = some x) (ry : rdO e2 ob = some y) (h : OpD X r e2 x y (.bool t) false) (hm : behindInMarks op c = false) : BT X b (.Compare a [op] [c] pos) env t e2 := fun F σ H S Q q =>
  wt_of (pt_cmpR ho (pe_we a) (pe_we c) hm) (ha F σ H S _ fun va F1 H1 k1 S1 o1 => hb F1 σ H1 S1 _ fun vb F2 H2 k2 S2 o2 =>
    h b F2 σ H2 va vb S2 (S2.rd (o1.mono k2) rx) (S2.rd o2 ry) _ fun v F3 H3 k3 S3 rz => by
      cases rz
      exact ⟨t, rfl, q F3 H3 (k1.trans (k2.trans k3)) S3⟩)
theorem be_ix2 (hr : IxR X r) (ha : BO X b a env oa e1) (hb : BO X b c e1 ob e2) (rx : rdO e2 oa = some x) (ry : rdO e2 ob = some y) (h : OpD X r e2 x y z fr) (hs : PlainIx c) : BE X b (.Subscript a c pos) env z fr e2 := fun F σ H S Q q =>
  we_of (pe_ix hr (pe_we a) (pe_we c) hs) (ha F σ H S _ fun va F1 H1 k1 S1 o1 => hb F1 σ H1 S1 _ fun vb F2 H2 k2 S2 o2 =>
    h b F2 σ H2 va vb S2 (S2.rd (o1.mono k2) rx) (S2.rd o2 ry) Q fun v F3 H3 k3 S3 rz => q v F3 H3 (k1.trans (k2.trans k3)) S3 rz)
end

/-! ### new objects -/
section
variable {K : PySem.W.Frag} {b : Bs} {F : Hp} {σ : L2.St} {H : Hp} {env : En}
theorem Stt.mkT (S : Stt K b F σ H env) {p : Addr} {vs : List V} {ds : List PyData} (hp : H p = none) (r : RvAll K F vs ds) :
    Same F (upd F p (.tup vs)) ∧ Stt K b (upd F p (.tup vs)) σ (upd H p (.tup vs)) env ∧ Rv K (upd F p (.tup vs)) (.ref p) (.tuple ds) :=
  ⟨Same.new (S.free hp).1, S.newF hp, .tup (SqT.of upd_same) (r.mono (Same.new (S.free hp).1))⟩
theorem Stt.mkL (S : Stt K b F σ H env) {p : Addr} {vs : List V} {ds : List PyData} (hp : H p = none) (r : RvAll K F vs ds) :
    Stt K b F σ (upd H p (.lst vs)) env ∧ Rz K b F σ (upd H p (.lst vs)) env (.ref p) (.list ds) true :=
  ⟨S.newH hp, p, vs, rfl, (S.free hp).1, (S.free hp).2.1, (S.free hp).2.2, upd_same, r⟩
theorem Stt.mkD (S : Stt K b F σ H env) {p : Addr} {vs : List (Key × V)} {ds : List (PyData × PyData)} (hp : H p = none) (r : RvKV K F vs ds) :
    Stt K b F σ (upd H p (.dK vs)) env ∧ Rz K b F σ (upd H p (.dK vs)) env (.ref p) (.dict ds) true :=
  ⟨S.newH hp, p, vs, rfl, (S.free hp).1, (S.free hp).2.1, (S.free hp).2.2, upd_same, r⟩
end

/-! ### arithmetic -/
section
variable {X : Cx} {env : En}
theorem od_int {g : Int → Int → Int} {i j : Int} : OpD X (rI0 fun i j => .int (g i j)) env (.int i) (.int j) (.int (g i j)) false := fun b F σ H va vb S ra rb Q q => by
  rw [ra.of_int, rb.of_int]
  exact ⟨i, j, rfl, rfl, q _ F H (Same.refl F) S (.int _)⟩
theorem od_intC {C : Int → Int → Prop} {g : Int → Int → Int} {i j : Int} (hc : C i j) : OpD X (rI C fun i j => .int (g i j)) env (.int i) (.int j) (.int (g i j)) false := fun b F σ H va vb S ra rb Q q => by
  rw [ra.of_int, rb.of_int]
  exact ⟨i, j, rfl, rfl, hc, q _ F H (Same.refl F) S (.int _)⟩
theorem od_intB {g : Int → Int → Bool} {i j : Int} : OpD X (rI0 fun i j => .bl (g i j)) env (.int i) (.int j) (.bool (g i j)) false := fun b F σ H va vb S ra rb Q q => by
  rw [ra.of_int, rb.of_int]
  exact ⟨i, j, rfl, rfl, q _ F H (Same.refl F) S (.bl _)⟩
theorem od_addS {x y : Str} (hl : x.length + y.length ≤ lim) : OpD X (fun x y H Q => ∃ i j, x = .str i ∧ y = .str j ∧ i.length + j.length ≤ sizeLine ∧ Q (.str (i ++ j)) H) env (.str x) (.str y) (.str (x ++ y)) false := fun b F σ H va vb S ra rb Q q => by
  rw [ra.of_str, rb.of_str]
  exact ⟨x, y, rfl, rfl, by rw [← lim_eq]; exact hl, q _ F H (Same.refl F) S (.str _ (by rw [Str.length_append]; exact hl))⟩
theorem mulOk {x : Str} {j : Int} (h0 : 0 ≤ j) (h1 : j < 2 ^ 40) (hl : x.length * j.toNat ≤ lim) : MulOk x j := by
  refine ⟨by simp only [Bool.or_eq_false_iff, decide_eq_false_iff_not]; omega, fun h2 _ h3 => ?_, fun _ _ => ?_⟩
  · obtain ⟨n, rfl⟩ : ∃ n : Nat, j = (n : Int) := ⟨j.toNat, by omega⟩
    rw [Int.toNat_natCast] at hl
    have hn : 0 < n := by omega
    have h4 : ((x.length : Nat) : Int) * (n : Int) ≤ 16777216 := by
      have : ((x.length * n : Nat) : Int) ≤ ((lim : Nat) : Int) := by exact_mod_cast hl
      rw [Int.natCast_mul] at this
      exact this
    have h5 : (x.length : Int) ≤ (2 ^ 63 - 1) / (n : Int) := by
      rw [Int.le_ediv_iff_mul_le (by omega)]
      omega
    omega
  · have : x.length * j.toNat ≤ sizeLine := by rw [← lim_eq]; exact hl
    unfold Builtin.Str.tooLong
    simp only [decide_eq_false_iff_not]
    omega
theorem txt_mul_len {x : Str} {j : Int} (h0 : 0 ≤ j) (h1 : j < 2 ^ 40) (hl : x.length * j.toNat ≤ lim) : (Txt.mul x j).length ≤ lim := by
  have ok := mulOk h0 h1 hl
  unfold Txt.mul
  by_cases h2 : j < 1
  · rw [if_pos h2]; decide
  · rw [if_neg h2]
    by_cases h3 : (j == 1 || x.length == 0) = true
    · rw [if_pos h3]
      have : 0 < j.toNat := by omega
      exact Nat.le_trans (Nat.le_mul_of_pos_right _ this) hl
    · rw [if_neg h3, lim_eq]
      exact fits_reps (ok.2.2 h2 (by simpa using h3))
theorem op_mulS : OpR X (binaryOp .Mult) (fun x y H Q => ∃ a j, x = .str a ∧ y = .int j ∧ MulOk a j ∧ Q (.str (Txt.mul a j)) H) := by
  intro pins s σ H x y v u Q I rx ry h
  obtain ⟨a, j, rfl, rfl, ok, q⟩ := h
  obtain ⟨t, rfl⟩ := rx
  obtain ⟨t', rfl⟩ := ry
  exact SB.mul ok fun t2 k => ⟨.str _, H, I.tok k, ⟨_, rfl⟩, q⟩
def frB (op : Operator) (z : PyData) : Bool := match op, z with
  | .Add, .list _ => true
  | _, _ => false
theorem bin_ok {op : Operator} {x y z : PyData} (h : binD op x y = some z) : ∃ r, OpR X (binaryOp op) r ∧ OpD X r env x y z (frB op z) := by
  unfold binD at h
  split at h
  · cases h; exact ⟨_, op_add, od_int⟩
  · rename_i x y
    split at h
    · rename_i hl; cases h; exact ⟨_, op_add_str, od_addS hl⟩
    · cases h
  · rename_i xs ys
    split at h
    · rename_i hl
      cases h
      refine ⟨_, op_cat, fun b F σ H va vb S ra rb Q q => ?_⟩
      obtain ⟨p, vs, rfl, h1, h2⟩ := ra.lstH S.fh
      obtain ⟨p', ws, rfl, h3, h4⟩ := rb.lstH S.fh
      have S2 := fun p (hp : H p = none) => S.mkL hp (h2.append h4)
      exact ⟨p, p', vs, ws, rfl, rfl, h1, h3, by rw [h2.length, h4.length, ← lim_eq]; exact hl, fun l hl => q _ F _ (Same.refl F) (S2 l hl).1 (S2 l hl).2⟩
    · cases h
  · rename_i xs ys
    split at h
    · rename_i hl
      cases h
      refine ⟨_, op_catA, fun b F σ H va vb S ra rb Q q => ?_⟩
      obtain ⟨p, vs, rfl, h1, h2⟩ := ra.seqT S.fh
      obtain ⟨p', ws, rfl, h3, h4⟩ := rb.seqT S.fh
      have ra' : Rv X.K F (.ref p) (.tuple xs) := by cases ra with | fz k => exact k
      have rb' : Rv X.K F (.ref p') (.tuple ys) := by cases rb with | fz k => exact k
      refine ⟨p, p', vs, ws, rfl, rfl, h1, h3, by rw [h2.length, h4.length, ← lim_eq]; exact hl, fun e => ?_, fun _ e => ?_, fun _ _ l hl => ?_⟩
      · subst e; cases h2; exact q _ F H (Same.refl F) S rb'
      · subst e; cases h4; rw [List.append_nil] at q; exact q _ F H (Same.refl F) S ra'
      · obtain ⟨k1, k2, k3⟩ := S.mkT hl (h2.append h4); exact q _ _ _ k1 k2 k3
    · cases h
  · cases h; exact ⟨_, op_sub, od_int⟩
  · rename_i i j
    split at h
    · rename_i hc
      cases h
      exact ⟨_, op_mul, od_intC (by
        rcases hc with hc | hc
        · exact .inl (by omega)
        · exact .inr (by omega))⟩
    · cases h
  · rename_i x j
    split at h
    · rename_i hc
      cases h
      refine ⟨_, op_mulS, fun b F σ H va vb S ra rb Q q => ?_⟩
      rw [ra.of_str, rb.of_int]
      exact ⟨x, j, rfl, rfl, mulOk hc.1 hc.2.1 hc.2.2, q _ F H (Same.refl F) S (.str _ (txt_mul_len hc.1 hc.2.1 hc.2.2))⟩
    · cases h
  · split at h
    · rename_i hc; cases h; exact ⟨_, op_mod, od_intC hc⟩
    · cases h
  · split at h
    · rename_i hc; cases h; exact ⟨_, op_fdiv, od_intC hc⟩
    · cases h
  · split at h
    · rename_i hc; cases h; exact ⟨_, op_pow, od_intC (C := CPow) (g := fun i j => i ^ j.toNat) hc⟩
    · cases h
  · cases h
theorem be_bin {b : Bs} {op : Operator} {a c : Expr} {pos : Pos} {e1 e2 : En} {oa ob : Op} {x y z : PyData} (ha : BO X b a env oa e1) (hb : BO X b c e1 ob e2) (rx : rdO e2 oa = some x) (ry : rdO e2 ob = some y) (h : binD op x y = some z) : BE X b (.BinOp a op c pos) env z (frB op z) e2 := by
  obtain ⟨r, h1, h2⟩ := bin_ok (X := X) (env := e2) h
  exact be_op2 h1 ha hb rx ry h2
theorem be_neg {b : Bs} {a : Expr} {pos : Pos} {e1 : En} {i : Int} (ha : BE X b a env (.int i) false e1) : BE X b (.UnaryOp .USub a pos) env (.int (-i)) false e1 := fun F σ H S Q q =>
  we_of (pe_un un_neg (pe_we a)) (ha F σ H S _ fun v F1 H1 k1 S1 r => by cases r; exact ⟨i, rfl, q _ F1 H1 k1 S1 (.int _)⟩)
end

/-! ### data without dicts -/
section
variable {K : PySem.W.Frag} {H : Hp}
mutual
theorem Rv.dp : ∀ {d : PyData} {v : V}, d.canLay0 = true → Rv K H v d → Dp K H v d
  | .none, _, _, .non => .non
  | .bool _, _, _, .bl b => .bl b
  | .int _, _, _, .int i => .int i
  | .str _, _, _, .str x _ => .str x
  | .list ds, _, h, .lst q r => .lst (SqL.of q) (RvAll.dp (by simpa [PyData.canLay0] using h) r)
  | .tuple ds, _, h, .tup q r => .tup q (RvAll.dp (by simpa [PyData.canLay0] using h) r)
  | .dict _, _, h, _ => by simp [PyData.canLay0] at h
theorem RvAll.dp : ∀ {ds : List PyData} {vs : List V}, PyData.canLayAll0 ds = true → RvAll K H vs ds → DpAll K H vs ds
  | [], _, _, .nil => .nil
  | d :: ds, _, h, .cons q r => by
    rw [PyData.canLayAll0, Bool.and_eq_true] at h
    exact .cons (Rv.dp h.1 q) (RvAll.dp h.2 r)
end
end
theorem RS.dp {K : PySem.W.Frag} {F H : Hp} {v : V} {d : PyData} (e : Same F H) (h : RS K F H v d) (s : shp d = true) : Dp K H v d := Rv.dp (SeqAt.canLay_of_shaped s) (h.rv e)
theorem Rv.flat {K : PySem.W.Frag} {F : Hp} {v : V} {d : PyData} (h : Rv K F v d) (f : flatD d = true) : flatV v = true := by
  cases h <;> first | rfl | simp [flatD] at f
theorem Rv.eqV {K : PySem.W.Frag} {F F' : Hp} {v w : V} {d e : PyData} (h : Rv K F v d) (k : Rv K F' w e) (f : flatD d = true) (g : flatD e = true) : L2.eqV v w = PyData.eqv d e := by
  cases h <;> cases k <;> first | rfl | (simp [flatD] at f; done) | (simp [flatD] at g; done)
theorem RvAll.inV {K : PySem.W.Frag} {F : Hp} {x : V} {d : PyData} (hx : Rv K F x d) (f : flatD d = true) : ∀ {vs : List V} {ds : List PyData}, RvAll K F vs ds → ds.all flatD = true → vs.all flatV = true ∧ L2.inV x vs = ds.any fun y => PyData.eqv y d
  | _, _, .nil, _ => ⟨rfl, rfl⟩
  | _, _, .cons (v := v) (vs := vs) (d := e) (ds := es) h r, g => by
    rw [List.all_cons, Bool.and_eq_true] at g
    obtain ⟨k1, k2⟩ := RvAll.inV hx f r g.2
    unfold L2.inV at k2 ⊢
    rw [List.all_cons, List.any_cons, List.any_cons, h.flat g.1, k1, k2, h.eqV hx g.1 f]
    exact ⟨rfl, rfl⟩

/-! ### dicts of int and text keys -/
theorem keyOf_keyD {d : PyData} {k : Key} (h : keyOf d = some k) : keyD k = d := by
  cases d <;> simp [keyOf] at h <;> subst h <;> rfl
theorem eqv_key (a b : Key) : PyData.eqv (keyD a) (keyD b) = decide (a = b) := by
  cases a with
  | inl i =>
    cases b with
    | inl j => show (i == j) = _; rw [Bool.eq_iff_iff]; simp
    | inr y => show false = _; simp
  | inr x =>
    cases b with
    | inl j => show false = _; simp
    | inr y => show (x == y) = _; rw [Bool.eq_iff_iff]; simp
theorem RS.key {K : PySem.W.Frag} {F H : Hp} {v : V} {d : PyData} {k : Key} (h : RS K F H v d) (e : keyOf d = some k) : v = kV k := by
  cases d <;> simp [keyOf] at e <;> subst e
  · exact h.of_int
  · exact h.of_str
theorem RvKV.look {K : PySem.W.Frag} {F : Hp} (k : Key) : ∀ {vs : List (Key × V)} {ds : List (PyData × PyData)}, RvKV K F vs ds → (match valV vs k, lookD ds (keyD k) with | some v, some d => Rv K F v d | none, none => True | _, _ => False)
  | _, _, .nil => trivial
  | _, _, .cons (k := j) (v := v) (vs := vs) (d := d) (ds := ds) _ h r => by
    by_cases e : j = k
    · subst e
      have e1 : valV ((j, v) :: vs) j = some v := valV_pos (p := (j, v)) rfl
      have e2 : lookD ((keyD j, d) :: ds) (keyD j) = some d := by
        unfold lookD
        rw [List.find?_cons_of_pos (by simp [eqv_key])]
        rfl
      rw [e1, e2]; exact h
    · have e1 : valV ((j, v) :: vs) k = valV vs k := valV_neg (p := (j, v)) e
      have e2 : lookD ((keyD j, d) :: ds) (keyD k) = lookD ds (keyD k) := by
        unfold lookD
        rw [List.find?_cons_of_neg (by simp [eqv_key, e])]
      rw [e1, e2]; exact RvKV.look k r
theorem lookD_any (kvs : List (PyData × PyData)) (k : PyData) : (kvs.any fun p => PyData.eqv p.1 k) = (lookD kvs k).isSome := by
  unfold lookD
  induction kvs with
  | nil => rfl
  | cons p r ih =>
    by_cases e : PyData.eqv p.1 k = true
    · rw [List.any_cons, e, List.find?_cons_of_pos (by exact e)]; rfl
    · rw [List.any_cons, List.find?_cons_of_neg (by exact e), ← ih]
      simp [e]
theorem RvKV.put {K : PySem.W.Frag} {F : Hp} (k : Key) {v : V} {d : PyData} (hk : Rv K F (kV k) (keyD k)) (hv : Rv K F v d) {vs : List (Key × V)} {ds : List (PyData × PyData)} (r : RvKV K F vs ds) : RvKV K F (putK vs k v) (putD ds (keyD k) d) := by
  have an : (vs.any fun kv => decide (kv.1 = k)) = ds.any fun p => PyData.eqv p.1 (keyD k) := by
    clear hv hk
    induction vs generalizing ds with
    | nil => cases r; rfl
    | cons p vs ih => cases r with | cons g h r => rw [List.any_cons, List.any_cons, ih r, eqv_key]
  have mp : ∀ {vs : List (Key × V)} {ds : List (PyData × PyData)}, RvKV K F vs ds → RvKV K F (vs.map fun kv => if kv.1 = k then (kv.1, v) else kv) (ds.map fun p => if PyData.eqv p.1 (keyD k) = true then (p.1, d) else p) := by
    intro vs ds r
    induction vs generalizing ds with
    | nil => cases r; exact .nil
    | cons p vs ih =>
      cases r with
      | cons g h r =>
        rename_i j w e es
        rw [List.map_cons, List.map_cons]
        by_cases e : j = k
        · rw [if_pos e, if_pos (by simp [eqv_key, e])]; exact .cons g hv (ih r)
        · rw [if_neg e, if_neg (by simp [eqv_key, e])]; exact .cons g h (ih r)
  have sn : ∀ {vs : List (Key × V)} {ds : List (PyData × PyData)}, RvKV K F vs ds → RvKV K F (vs ++ [(k, v)]) (ds ++ [(keyD k, d)]) := by
    intro vs ds r
    induction vs generalizing ds with
    | nil => cases r; exact .cons hk hv .nil
    | cons p vs ih => cases r with | cons g h r => exact .cons g h (ih r)
  unfold putK putD
  rw [an]
  by_cases e : (ds.any fun p => PyData.eqv p.1 (keyD k)) = true
  · rw [if_pos e, if_pos e]; exact mp r
  · rw [if_neg e, if_neg e]; exact sn r
end Mi

set_option maxHeartbeats 2000000
/-! D5N: dicts whose keys are tuples. -/
namespace Mi
open PySem PySem.Spec PyProof.Rows L2
section
variable {X : Cx} {pins : List (Addr × Obj)} {σ : L2.St} {F H : Hp} {s : Shared}
mutual
theorem nk_is (I : Inv X pins σ H s) (e : Same F H) : ∀ {d : PyData} {v : V} {u : Value} {nk : NestedKey}, Rv X.K F v d → nkD d = some nk → RelV v u → NestedIs s.heap nk u
  | .none, _, _, _, .non, h, r => by cases h; cases r; exact .none
  | .bool b, _, _, _, .bl _, h, r => by cases h; cases r; exact .bool rfl
  | .int i, _, _, _, .int _, h, r => by cases h; obtain ⟨t, rfl⟩ := r; exact .int i t
  | .str x, _, _, _, .str _ _, h, r => by cases h; obtain ⟨t, rfl⟩ := r; exact .text x t
  | .list ds, _, _, _, _, h, _ => by cases h
  | .dict ds, _, _, _, _, h, _ => by cases h
  | .tuple ds, _, _, _, .tup hq rs, h, r => by
    obtain ⟨ks, hk, rfl⟩ := Option.map_eq_some_iff.mp (show (nkAll ds).map NestedKey.tup = some _ from h)
    cases r
    obtain ⟨its, rv, p, hz⟩ := I.tuple (same_t e hq)
    obtain ⟨o, h1, h2, n, h3⟩ := p
    refine .tup h1 h2 h3 ?_
    have := nks_are I e rs hk rv
    simpa using this
theorem nks_are (I : Inv X pins σ H s) (e : Same F H) : ∀ {ds : List PyData} {vs : List V} {us : List Value} {ks : List NestedKey}, RvAll X.K F vs ds → nkAll ds = some ks → Vals vs us → NestedAll s.heap ks us
  | [], _, _, _, .nil, h, .nil => by cases h; exact .nil
  | d :: ds, _, _, _, .cons q qs, h, .cons r rs => by
    unfold nkAll at h
    cases e1 : nkD d with
    | none => rw [e1] at h; cases h
    | some k =>
      cases e2 : nkAll ds with
      | none => rw [e1, e2] at h; cases h
      | some ks =>
        rw [e1, e2] at h; cases h
        exact .cons (nk_is I e q e1 r) (nks_are I e qs e2 rs)
end
end
mutual
theorem eqv_nk : ∀ {a b : PyData} {ka kb : NestedKey}, nkD a = some ka → nkD b = some kb → PyData.eqv a b = NestedKey.beq ka kb
  | .none, .none, _, _, h, k => by cases h; cases k; rfl
  | .none, .bool _, _, _, h, k => by cases h; cases k; rfl
  | .none, .int _, _, _, h, k => by cases h; cases k; rfl
  | .none, .str _, _, _, h, k => by cases h; cases k; rfl
  | .none, .tuple ds, _, _, h, k => by cases h; obtain ⟨ks, hk, rfl⟩ := Option.map_eq_some_iff.mp (show (nkAll ds).map NestedKey.tup = some _ from k); rfl
  | .bool _, .none, _, _, h, k => by cases h; cases k; rfl
  | .bool a, .bool b, _, _, h, k => by cases h; cases k; cases a <;> cases b <;> rfl
  | .bool a, .int j, _, _, h, k => by cases h; cases k; show ((if a = true then 1 else 0) == j) = decide ((if a = true then 1 else 0) = j); rw [Bool.eq_iff_iff]; simp
  | .bool _, .str _, _, _, h, k => by cases h; cases k; rfl
  | .bool _, .tuple ds, _, _, h, k => by cases h; obtain ⟨ks, hk, rfl⟩ := Option.map_eq_some_iff.mp (show (nkAll ds).map NestedKey.tup = some _ from k); rfl
  | .int _, .none, _, _, h, k => by cases h; cases k; rfl
  | .int i, .bool b, _, _, h, k => by cases h; cases k; show (i == (if b = true then 1 else 0)) = decide (i = (if b = true then 1 else 0)); rw [Bool.eq_iff_iff]; simp
  | .int i, .int j, _, _, h, k => by cases h; cases k; show (i == j) = decide (i = j); rw [Bool.eq_iff_iff]; simp
  | .int _, .str _, _, _, h, k => by cases h; cases k; rfl
  | .int _, .tuple ds, _, _, h, k => by cases h; obtain ⟨ks, hk, rfl⟩ := Option.map_eq_some_iff.mp (show (nkAll ds).map NestedKey.tup = some _ from k); rfl
  | .str _, .none, _, _, h, k => by cases h; cases k; rfl
  | .str _, .bool _, _, _, h, k => by cases h; cases k; rfl
  | .str _, .int _, _, _, h, k => by cases h; cases k; rfl
  | .str x, .str y, _, _, h, k => by cases h; cases k; show (x == y) = decide (x = y); rw [Bool.eq_iff_iff]; simp
  | .str _, .tuple ds, _, _, h, k => by cases h; obtain ⟨ks, hk, rfl⟩ := Option.map_eq_some_iff.mp (show (nkAll ds).map NestedKey.tup = some _ from k); rfl
  | .tuple ds, .none, _, _, h, k => by cases k; obtain ⟨ks, hk, rfl⟩ := Option.map_eq_some_iff.mp (show (nkAll ds).map NestedKey.tup = some _ from h); rfl
  | .tuple ds, .bool _, _, _, h, k => by cases k; obtain ⟨ks, hk, rfl⟩ := Option.map_eq_some_iff.mp (show (nkAll ds).map NestedKey.tup = some _ from h); rfl
  | .tuple ds, .int _, _, _, h, k => by cases k; obtain ⟨ks, hk, rfl⟩ := Option.map_eq_some_iff.mp (show (nkAll ds).map NestedKey.tup = some _ from h); rfl
  | .tuple ds, .str _, _, _, h, k => by cases k; obtain ⟨ks, hk, rfl⟩ := Option.map_eq_some_iff.mp (show (nkAll ds).map NestedKey.tup = some _ from h); rfl
  | .tuple ds, .tuple es, _, _, h, k => by
    obtain ⟨ks, hk, rfl⟩ := Option.map_eq_some_iff.mp (show (nkAll ds).map NestedKey.tup = some _ from h)
    obtain ⟨ls, hl, rfl⟩ := Option.map_eq_some_iff.mp (show (nkAll es).map NestedKey.tup = some _ from k)
    show PyData.eqvAll ds es = NestedKey.beqAll ks ls
    exact eqvAll_nk hk hl
  | .list _, _, _, _, h, _ => by cases h
  | .dict _, _, _, _, h, _ => by cases h
  | .none, .list _, _, _, _, k => by cases k
  | .none, .dict _, _, _, _, k => by cases k
  | .bool _, .list _, _, _, _, k => by cases k
  | .bool _, .dict _, _, _, _, k => by cases k
  | .int _, .list _, _, _, _, k => by cases k
  | .int _, .dict _, _, _, _, k => by cases k
  | .str _, .list _, _, _, _, k => by cases k
  | .str _, .dict _, _, _, _, k => by cases k
  | .tuple _, .list _, _, _, _, k => by cases k
  | .tuple _, .dict _, _, _, _, k => by cases k
theorem eqvAll_nk : ∀ {a b : List PyData} {ka kb : List NestedKey}, nkAll a = some ka → nkAll b = some kb → PyData.eqvAll a b = NestedKey.beqAll ka kb
  | [], [], _, _, h, k => by cases h; cases k; rfl
  | [], d :: ds, _, _, h, k => by
    cases h
    unfold nkAll at k
    cases e1 : nkD d with
    | none => rw [e1] at k; cases k
    | some x => cases e2 : nkAll ds with
      | none => rw [e1, e2] at k; cases k
      | some xs => rw [e1, e2] at k; cases k; rfl
  | d :: ds, [], _, _, h, k => by
    cases k
    unfold nkAll at h
    cases e1 : nkD d with
    | none => rw [e1] at h; cases h
    | some x => cases e2 : nkAll ds with
      | none => rw [e1, e2] at h; cases h
      | some xs => rw [e1, e2] at h; cases h; rfl
  | d :: ds, e :: es, _, _, h, k => by
    unfold nkAll at h k
    cases e1 : nkD d with
    | none => rw [e1] at h; cases h
    | some x => cases e2 : nkAll ds with
      | none => rw [e1, e2] at h; cases h
      | some xs =>
        rw [e1, e2] at h; cases h
        cases f1 : nkD e with
        | none => rw [f1] at k; cases k
        | some y => cases f2 : nkAll es with
          | none => rw [f1, f2] at k; cases k
          | some ys =>
            rw [f1, f2] at k; cases k
            show (PyData.eqv d e && PyData.eqvAll ds es) = (NestedKey.beq x y && NestedKey.beqAll xs ys)
            rw [eqv_nk e1 f1, eqvAll_nk e2 f2]
end
theorem nkT_nk {d : PyData} {k : NestedKey} (h : nkT d = some k) : nkD d = some k ∧ k.depth ≤ 8 ∧ ∃ ds, d = .tuple ds := by
  unfold nkT at h
  split at h
  · obtain ⟨k', e, h⟩ := Option.bind_eq_some_iff.mp h
    split at h
    · cases h; exact ⟨e, by assumption, _, rfl⟩
    · cases h
  · cases h
theorem eqv_nkT {a b : PyData} {ka kb : NestedKey} (h : nkT a = some ka) (k : nkT b = some kb) : PyData.eqv a b = decide (ka = kb) := by
  rw [eqv_nk (nkT_nk h).1 (nkT_nk k).1, NestedKey.decide_eq]

/-- at p: a dict whose keys are tuples, by its entries -/
def HasN (w : World) (H : Hp) (p : Addr) (xs : List (NestedKey × Addr × Value)) : Prop := H p = some (.ext (dnφ w p xs)) ∨ (xs = [] ∧ H p = some (.dK []))
section
variable {X : Cx} {pins : List (Addr × Obj)} {σ : L2.St} {F H : Hp} {s : Shared} {p : Addr} {xs : List (NestedKey × Addr × Value)} {ds : List (PyData × PyData)}
theorem HasN.dict (I : Inv X pins σ H s) (e : Same F H) (h : HasN X.w H p xs) (r : RvN X.K F xs ds) : (p == sysModules) = false ∧ xs.length ≤ sizeLine ∧ s.heap.DictOfH (nestedKind X.prog X.w) p xs := by
  have keys : ∀ x ∈ xs, (nestedKind X.prog X.w).is s.heap x.1 x.2.1 := fun x hx => by
    clear h
    induction r with
    | nil => cases hx
    | cons h1 h2 _ _ _ ih =>
      rcases List.mem_cons.mp hx with rfl | hx
      · exact ⟨nk_is I e h1 (nkT_nk h2).1 rfl, (nkT_nk h2).2.1⟩
      · exact ih hx
  rcases h with h | ⟨rfl, h⟩
  · obtain ⟨⟨h1, h2, o, es, ep, h3, h4, h5, h6, h7⟩, _⟩ := I.hok p _ h
    exact ⟨h1, h2, o, es, ep, h3, h4, h5, h6, keys, h7⟩
  · obtain ⟨h1, h2, vs, h3, o, es, ep, h4, h5, h6, h7, h8⟩ := I.hok p _ h
    cases h3
    have he : es.toList = [] := by
      obtain ⟨h8, _⟩ := h8
      generalize es.toList = l at h8
      cases h8
      rfl
    exact ⟨h2, Nat.zero_le _, o, es, ep, h4, h5, h6, he, keys, List.nodup_nil⟩
theorem atKey_any {nk : NestedKey} {x : PyData} (hx : nkT x = some nk) (r : RvN X.K F xs ds) : (atKey xs nk).isSome = ds.any fun p => PyData.eqv p.1 x := by
  induction r with
  | nil => rfl
  | cons h1 h2 h3 h4 h5 ih =>
    rename_i ka kd k u v d xs ds
    rw [List.any_cons, eqv_nkT h2 hx, ← ih]
    unfold atKey
    by_cases e : k = nk
    · rw [List.find?_cons_of_pos (by simp [e])]; simp [e]
    · rw [List.find?_cons_of_neg (by simp [e])]; simp [e]
/-- x in the dict, and not -/
def rInN (X : Cx) (t : Bool) : R2 := fun x y H Q => ∃ p xs ds nk d F, y = .ref p ∧ HasN X.w H p xs ∧ Same F H ∧ RvN X.K F xs ds ∧ Rv X.K F x d ∧ nkT d = some nk ∧ Q (.bl ((ds.any fun p => PyData.eqv p.1 d) == t)) H
theorem op_inN (hu : X.A.units + 9 < cLine) : OpR X (compareOp .In) (rInN X true) := by
  intro pins s σ H x y v u Q I rx ry h
  obtain ⟨p, xs, ds, nk, d, F, rfl, h1, h2, h3, h4, h5, q⟩ := h
  cases ry
  obtain ⟨k1, k2, k3⟩ := h1.dict I h2 h3
  obtain ⟨j1, j2, es, rfl⟩ := nkT_nk h5
  cases h4 with
  | tup hq hr =>
    cases rx
    refine wpAny_in_heap (knd := nestedKind X.prog X.w) (by show X.A.units + 1 + 8 < cLine; omega) ⟨nk_is I h2 (.tup hq hr) j1 rfl, j2⟩ k1 k3 ⟨.bl _, H, I.tok _, rfl, ?_⟩
    rw [atKey_any h5 h3]
    simpa using q
theorem op_notInN (hu : X.A.units + 9 < cLine) : OpR X (compareOp .NotIn) (rInN X false) := by
  intro pins s σ H x y v u Q I rx ry h
  obtain ⟨p, xs, ds, nk, d, F, rfl, h1, h2, h3, h4, h5, q⟩ := h
  cases ry
  obtain ⟨k1, k2, k3⟩ := h1.dict I h2 h3
  obtain ⟨j1, j2, es, rfl⟩ := nkT_nk h5
  cases h4 with
  | tup hq hr =>
    cases rx
    refine wpAny_notIn_heap (knd := nestedKind X.prog X.w) (by show X.A.units + 1 + 8 < cLine; omega) ⟨nk_is I h2 (.tup hq hr) j1 rfl, j2⟩ k1 k3 ⟨.bl _, H, I.tok _, rfl, ?_⟩
    rw [atKey_any h5 h3]
    simpa using q
/-- d[k] = v -/
def rSetN (X : Cx) : TSet := fun o i v H Q => ∃ p xs ds nk ka d F, o = .ref p ∧ i = .ref ka ∧ HasN X.w H p xs ∧ Same F H ∧ RvN X.K F xs ds ∧ Rv X.K F (.ref ka) d ∧ nkT d = some nk ∧ xs.length < sizeLine ∧ ∀ u, RelV v u → Q (upd H p (.ext (dnφ X.w p (storedH xs nk ka u))))
theorem len_storedH (xs : List (NestedKey × Addr × Value)) (nk : NestedKey) (ka : Addr) (u : Value) : (storedH xs nk ka u).length ≤ xs.length + 1 := by
  unfold storedH
  split
  · rw [List.length_map]; omega
  · rw [List.length_append]; exact Nat.le_refl _
theorem set_dictN (hu : X.A.units + 9 < cLine) : PSet X (rSetN X) := by
  intro pins s σ H o i v ov iv u Q I ro ri rv h
  obtain ⟨p, xs, ds, nk, ka, d, F, rfl, rfl, h1, h2, h3, h4, h5, h6, q⟩ := h
  cases ro
  cases ri
  obtain ⟨k1, k2, k3⟩ := h1.dict I h2 h3
  obtain ⟨j1, j2, es, rfl⟩ := nkT_nk h5
  refine wpAny_setItem_heap (knd := nestedKind X.prog X.w) (hsz := k2) (by show X.A.units + 1 + 8 < cLine; omega) ⟨nk_is I h2 h4 j1 rfl, j2⟩ k3 fun h' dd' hs => ⟨_, ?_, q u rv⟩
  obtain ⟨o, es, ep, g1, g2, g3, g4, g5, g6⟩ := dd'
  refine d_write I (by rcases h1 with h1 | ⟨_, h1⟩ <;> (rw [h1]; exact True.intro)) hs ⟨o, g1⟩ ⟨⟨k1, by have := len_storedH xs nk ka u; omega, o, es, ep, g1, g2, g3, g4, g6⟩, ⟨o, g1⟩, fun h1 h2 ⟨a1, a2, o, es, ep, a3, a4⟩ hk => ⟨a1, a2, o, es, ep, hk o a3, a4⟩⟩
theorem RvN.put {nk : NestedKey} {ka : Addr} {kd d : PyData} {v : V} {u : Value} (hk : Rv X.K F (.ref ka) kd) (hn : nkT kd = some nk) (hr : RelV v u) (hv : Rv X.K F v d) (r : RvN X.K F xs ds) : RvN X.K F (storedH xs nk ka u) (putD ds kd d) := by
  have mp : ∀ {xs : List (NestedKey × Addr × Value)} {ds : List (PyData × PyData)}, RvN X.K F xs ds → RvN X.K F (xs.map (putAt nk u)) (ds.map fun p => if PyData.eqv p.1 kd = true then (p.1, d) else p) := by
    intro xs ds r
    induction r with
    | nil => exact .nil
    | cons h1 h2 h3 h4 h5 ih =>
      rename_i ka' kd' k u' v' d' xs ds
      rw [List.map_cons, List.map_cons]
      unfold putAt
      rw [eqv_nkT h2 hn]
      by_cases e : k = nk
      · rw [if_pos e, if_pos (by simp [e])]; exact .cons h1 h2 hr hv ih
      · rw [if_neg e, if_neg (by simp [e])]; exact .cons h1 h2 h3 h4 ih
  have sn : ∀ {xs : List (NestedKey × Addr × Value)} {ds : List (PyData × PyData)}, RvN X.K F xs ds → RvN X.K F (xs ++ [(nk, ka, u)]) (ds ++ [(kd, d)]) := by
    intro xs ds r
    induction r with
    | nil => exact .cons hk hn hr hv .nil
    | cons h1 h2 h3 h4 _ ih => exact .cons h1 h2 h3 h4 ih
  unfold storedH putD
  rw [atKey_any hn r]
  split
  · exact mp r
  · exact sn r
end
end Mi

set_option maxHeartbeats 2000000
/-! D6: comparisons, chains, subscripts, slices, isinstance, displays. -/
namespace Mi
open PySem PySem.Spec PyProof.Rows L2
section
variable {X : Cx} {env : En}
theorem op_dIn (hu : X.A.units + 1 < cLine) : OpR X (compareOp .In) (fun x y H Q => ∃ a o, y = .ref a ∧ DGet H a x o ∧ Q (.bl o.isSome) H) := by
  intro pins s σ H x y v u Q I rx ry h
  obtain ⟨a, o, rfl, g, q⟩ := h
  cases ry
  exact d_in hu I g rx fun s' I' => ⟨.bl _, H, I', rfl, q⟩
theorem op_dNotIn (hu : X.A.units + 1 < cLine) : OpR X (compareOp .NotIn) (fun x y H Q => ∃ a o, y = .ref a ∧ DGet H a x o ∧ Q (.bl (!o.isSome)) H) := by
  intro pins s σ H x y v u Q I rx ry h
  obtain ⟨a, o, rfl, g, q⟩ := h
  cases ry
  exact d_notIn hu I g rx fun s' I' => ⟨.bl _, H, I', rfl, q⟩
theorem look_some {K : PySem.W.Frag} {F : Hp} {vs : List (Key × V)} {ds : List (PyData × PyData)} (r : RvKV K F vs ds) (k : Key) : (valV vs k).isSome = (ds.any fun p => PyData.eqv p.1 (keyD k)) := by
  have h := r.look k
  rw [lookD_any]
  cases e1 : valV vs k <;> cases e2 : lookD ds (keyD k) <;> rw [e1, e2] at h <;> first | rfl | exact h.elim
/-- x in y, and not -/
theorem in_ok (hu : X.A.units + 65 < cLine) {x y : PyData} {t : Bool} (h : inD x y = some t) :
    (∃ r, OpR X (compareOp .In) r ∧ OpD X r env x y (.bool t) false) ∧ ∃ r, OpR X (compareOp .NotIn) r ∧ OpD X r env x y (.bool (!t)) false := by
  have fl : ∀ {va vb : V} {F H : Hp} {ys : List PyData}, Same F H → RS X.K F H va x → RvAll X.K H [] [] → flatD x = true → True := fun _ _ _ _ => trivial
  unfold inD at h
  split at h
  · rename_i y
    split at h
    · rename_i z
      split at h
      · rename_i c hz
        cases h
        have ez : z = ⟨#[c]⟩ := PyProof.Rows.ext_toList (by rw [hz])
        subst ez
        refine ⟨⟨_, op_in_sign, fun b F σ H va vb S ra rb Q q => ?_⟩, ⟨_, op_notIn_sign, fun b F σ H va vb S ra rb Q q => ?_⟩⟩
        · rw [ra.of_str, rb.of_str]; exact ⟨c, y, rfl, rfl, q _ F H (Same.refl F) S (.bl _)⟩
        · rw [ra.of_str, rb.of_str]; exact ⟨c, y, rfl, rfl, q _ F H (Same.refl F) S (.bl _)⟩
      · cases h
    · cases h
  · rename_i ys
    split at h
    · rename_i hc
      cases h
      refine ⟨⟨_, op_in_seq, fun b F σ H va vb S ra rb Q q => ?_⟩, ⟨_, op_notIn_seq, fun b F σ H va vb S ra rb Q q => ?_⟩⟩ <;>
      · obtain ⟨p, vs, rfl, h1, h2⟩ := rb.seqL S.fh
        obtain ⟨k1, k2⟩ := RvAll.inV (ra.rv S.fh) hc.1 (h2.mono S.fh) hc.2
        refine ⟨p, vs, rfl, .inl h1, (ra.rv S.fh).flat hc.1, k1, ?_⟩
        first | rw [if_neg (by decide), k2] | rw [if_pos rfl, k2]
        exact q _ F H (Same.refl F) S (.bl _)
    · split at h
      · rename_i hc
        cases h
        refine ⟨⟨_, op_inD hu, fun b F σ H va vb S ra rb Q q => ?_⟩, ⟨_, op_notInD hu, fun b F σ H va vb S ra rb Q q => ?_⟩⟩
        · exact ⟨x, ys, ra.dp S.fh hc.1, rb.dp S.fh hc.2, hc.1, hc.2, q _ F H (Same.refl F) S (.bl _)⟩
        · exact ⟨x, ys, ra.dp S.fh hc.1, rb.dp S.fh hc.2, hc.1, hc.2, q _ F H (Same.refl F) S (.bl _)⟩
      · cases h
  · rename_i ys
    split at h
    · rename_i hc
      cases h
      refine ⟨⟨_, op_in_seq, fun b F σ H va vb S ra rb Q q => ?_⟩, ⟨_, op_notIn_seq, fun b F σ H va vb S ra rb Q q => ?_⟩⟩ <;>
      · obtain ⟨p, vs, rfl, h1, h2⟩ := rb.seqT S.fh
        obtain ⟨k1, k2⟩ := RvAll.inV (ra.rv S.fh) hc.1 (h2.mono S.fh) hc.2
        refine ⟨p, vs, rfl, .inr h1, (ra.rv S.fh).flat hc.1, k1, ?_⟩
        first | rw [if_neg (by decide), k2] | rw [if_pos rfl, k2]
        exact q _ F H (Same.refl F) S (.bl _)
    · cases h
  · rename_i kvs
    split at h
    · rename_i k hk
      cases h
      have ek := keyOf_keyD hk
      refine ⟨⟨_, op_dIn (by omega), fun b F σ H va vb S ra rb Q q => ?_⟩, ⟨_, op_dNotIn (by omega), fun b F σ H va vb S ra rb Q q => ?_⟩⟩ <;>
      · obtain ⟨p, vs, rfl, h1, h2⟩ := rb.dctK S.fh
        refine ⟨p, _, rfl, by rw [ra.key hk]; exact DGet.k h1, ?_⟩
        rw [look_some h2 k, ek]
        exact q _ F H (Same.refl F) S (.bl _)
    · split at h
      · rename_i nk hn
        cases h
        obtain ⟨_, _, es, rfl⟩ := nkT_nk hn
        refine ⟨⟨_, op_inN (by omega), fun b F σ H va vb S ra rb Q q => ?_⟩, ⟨_, op_notInN (by omega), fun b F σ H va vb S ra rb Q q => ?_⟩⟩ <;>
        · obtain ⟨p, vs, rfl, h1, h2⟩ := rb.dctK S.fh
          cases h2
          have rv : Rv X.K F va (.tuple es) := by cases ra with | fz k => exact k
          exact ⟨p, [], [], nk, _, F, rfl, .inr ⟨rfl, h1⟩, S.fh, .nil, rv, hn, q _ F H (Same.refl F) S (.bl _)⟩
      · cases h
  · cases h
theorem isNone_ok {K : PySem.W.Frag} {F H : Hp} {v : V} {d : PyData} (h : RS K F H v d) : decide (v = V.non) = isNone d := by
  cases h with
  | fz h => cases h <;> first | rfl | simp [isNone]
  | ol h r => simp [isNone]
  | od h r => simp [isNone]
theorem cmp_ok (hu : X.A.units + 65 < cLine) {op : CmpOp} {x y : PyData} {t : Bool} (h : cmpD op x y = some t) : ∃ r, OpR X (compareOp op) r ∧ OpD X r env x y (.bool t) false := by
  have es : ∀ x y : Str, decide (V.str x = V.str y) = (x == y) := fun x y => by
    by_cases e : x = y
    · subst e; simp
    · have : ¬ V.str x = V.str y := fun z => e (by cases z; rfl)
      simp [e, this]
  unfold cmpD at h
  split at h
  · cases h; exact ⟨_, op_eq, fun b F σ H va vb S ra rb Q q => by rw [ra.of_str, rb.of_str]; exact ⟨rfl, by rw [es]; exact q _ F H (Same.refl F) S (.bl _)⟩⟩
  · cases h; exact ⟨_, op_ne, fun b F σ H va vb S ra rb Q q => by rw [ra.of_str, rb.of_str]; exact ⟨rfl, by rw [es]; exact q _ F H (Same.refl F) S (.bl _)⟩⟩
  · split at h
    · rename_i hc
      cases h
      exact ⟨_, op_eqD (by omega), fun b F σ H va vb S ra rb Q q => ⟨_, _, ra.dp S.fh hc.1, rb.dp S.fh hc.2, hc.1, hc.2, q _ F H (Same.refl F) S (.bl _)⟩⟩
    · cases h
  · split at h
    · rename_i hc
      cases h
      exact ⟨_, op_neD (by omega), fun b F σ H va vb S ra rb Q q => ⟨_, _, ra.dp S.fh hc.1, rb.dp S.fh hc.2, hc.1, hc.2, q _ F H (Same.refl F) S (.bl _)⟩⟩
    · cases h
  · cases h; exact ⟨_, op_lt, od_intB⟩
  · cases h; exact ⟨_, op_le, od_intB⟩
  · cases h; exact ⟨_, op_gt, od_intB (g := fun i j => decide (j < i))⟩
  · cases h; exact ⟨_, op_ge, od_intB (g := fun i j => decide (j ≤ i))⟩
  · cases h; exact ⟨_, op_lt_str, fun b F σ H va vb S ra rb Q q => by rw [ra.of_str, rb.of_str]; exact ⟨_, _, rfl, rfl, q _ F H (Same.refl F) S (.bl _)⟩⟩
  · cases h; exact ⟨_, op_le_str, fun b F σ H va vb S ra rb Q q => by rw [ra.of_str, rb.of_str]; exact ⟨_, _, rfl, rfl, q _ F H (Same.refl F) S (.bl _)⟩⟩
  · cases h; exact ⟨_, op_gt_str, fun b F σ H va vb S ra rb Q q => by rw [ra.of_str, rb.of_str]; exact ⟨_, _, rfl, rfl, q _ F H (Same.refl F) S (.bl _)⟩⟩
  · cases h; exact ⟨_, op_ge_str, fun b F σ H va vb S ra rb Q q => by rw [ra.of_str, rb.of_str]; exact ⟨_, _, rfl, rfl, q _ F H (Same.refl F) S (.bl _)⟩⟩
  · cases h; exact ⟨_, op_isN, fun b F σ H va vb S ra rb Q q => ⟨rb.of_none, by rw [isNone_ok ra]; exact q _ F H (Same.refl F) S (.bl _)⟩⟩
  · cases h; exact ⟨_, op_notN, fun b F σ H va vb S ra rb Q q => ⟨rb.of_none, by rw [isNone_ok ra]; exact q _ F H (Same.refl F) S (.bl _)⟩⟩
  · cases h; exact ⟨_, op_is_bl, fun b F σ H va vb S ra rb Q q => by rw [ra.of_bool, rb.of_bool]; exact ⟨_, _, rfl, rfl, q _ F H (Same.refl F) S (.bl _)⟩⟩
  · cases h; exact ⟨_, op_isnot_bl, fun b F σ H va vb S ra rb Q q => by rw [ra.of_bool, rb.of_bool]; exact ⟨_, _, rfl, rfl, q _ F H (Same.refl F) S (.bl _)⟩⟩
  · exact (in_ok (env := env) hu h).1
  · obtain ⟨t', e, rfl⟩ := Option.map_eq_some_iff.mp h
    exact (in_ok (env := env) hu e).2
  · cases h
section
variable {b : Bs} {a c e : Expr} {pos : Pos} {e1 e2 e3 : En} {oa ob oc : Op} {x y y' z : PyData}
theorem be_cmp (hu : X.A.units + 65 < cLine) {op : CmpOp} {t : Bool} (ha : BO X b a env oa e1) (hb : BO X b c e1 ob e2) (rx : rdO e2 oa = some x) (ry : rdO e2 ob = some y) (h : cmpD op x y = some t) (hm : behindInMarks op c = false) : BE X b (.Compare a [op] [c] pos) env (.bool t) false e2 := by
  obtain ⟨r, h1, h2⟩ := cmp_ok (env := e2) hu h
  exact be_cmp2 h1 ha hb rx ry h2 hm
theorem bt_cmp (hu : X.A.units + 65 < cLine) {op : CmpOp} {t : Bool} (ha : BO X b a env oa e1) (hb : BO X b c e1 ob e2) (rx : rdO e2 oa = some x) (ry : rdO e2 ob = some y) (h : cmpD op x y = some t) (hm : behindInMarks op c = false) : BT X b (.Compare a [op] [c] pos) env t e2 := by
  obtain ⟨r, h1, h2⟩ := cmp_ok (env := e2) hu h
  exact bt_cmp2 h1 ha hb rx ry h2 hm
/-- a comparison of operands, within dicts whose keys are tuples too -/
def OpO (X : Cx) (b : Bs) (r : R2) (env : En) (oa ob : Op) (t : Bool) : Prop :=
  ∀ F σ H va vb, Stt X.K b F σ H env → OpOk X.K F σ va oa → OpOk X.K F σ vb ob → ∀ Q : VK, (∀ F' H', Same F F' → Stt X.K b F' σ H' env → Q (.bl t) H') → r va vb H Q
theorem cmpT_ok (hu : X.A.units + 65 < cLine) {op : CmpOp} {t : Bool} (hw : b.w = X.w) (h : cmpE op oa ob e2 = some t) : ∃ r : R2, OpR X (compareOp op) r ∧ OpO X b r e2 oa ob t := by
  unfold cmpE at h
  split at h
  · rename_i kvs hk
    obtain ⟨tt, ht, h⟩ := Option.bind_eq_some_iff.mp h
    obtain ⟨x, hx, h⟩ := Option.bind_eq_some_iff.mp h
    obtain ⟨nk, hn, h⟩ := Option.map_eq_some_iff.mp h
    subst h
    obtain ⟨i, rfl, he⟩ : ∃ i, ob = .sl i ∧ e2[i]? = some (.owt kvs) := by
      cases ob with
      | dt d => cases hk
      | sl i =>
        refine ⟨i, rfl, ?_⟩
        have hk' : (match e2[i]? with | some (.owt kvs) => some kvs | _ => none) = some kvs := hk
        split at hk'
        · rename_i q; cases hk'; exact q
        · cases hk'
    have fin : OpO X b (rInN X tt) e2 oa (.sl i) ((kvs.any fun p => PyData.eqv p.1 x) == tt) := fun F σ H va vb S o1 o2 Q q => by
      obtain ⟨p, xs, h1, h2, h3, h4, h5⟩ := S.sl i _ he
      have o2' : σ[i]? = some (some vb) := o2
      rw [h1] at o2'; cases o2'
      obtain ⟨_, _, es, rfl⟩ := nkT_nk hn
      have rv : Rv X.K F va (.tuple es) := by cases (S.rd o1 hx) with | fz k => exact k
      exact ⟨p, xs, kvs, nk, _, F, rfl, .inl (by rw [← hw]; exact h2), S.fh, h5, rv, hn, q F H (Same.refl F) S⟩
    cases op with
    | In => cases ht; exact ⟨_, op_inN (by omega), fin⟩
    | NotIn => cases ht; exact ⟨_, op_notInN (by omega), fin⟩
    | Eq => cases ht
    | NotEq => cases ht
    | Lt => cases ht
    | LtE => cases ht
    | Gt => cases ht
    | GtE => cases ht
    | Is => cases ht
    | IsNot => cases ht
  · obtain ⟨x, hx, h⟩ := Option.bind_eq_some_iff.mp h
    obtain ⟨y, hy, h⟩ := Option.bind_eq_some_iff.mp h
    obtain ⟨r, k1, k2⟩ := cmp_ok (X := X) (env := e2) hu h
    exact ⟨r, k1, fun F σ H va vb S o1 o2 Q q => k2 b F σ H va vb S (S.rd o1 hx) (S.rd o2 hy) Q fun v F' H' k S' rz => by
      cases rz
      exact q F' H' k S'⟩
theorem be_cmpT (hu : X.A.units + 65 < cLine) {op : CmpOp} {t : Bool} (hw : b.w = X.w) (ha : BO X b a env oa e1) (hb : BO X b c e1 ob e2) (h : cmpE op oa ob e2 = some t) (hm : behindInMarks op c = false) : BE X b (.Compare a [op] [c] pos) env (.bool t) false e2 := by
  obtain ⟨r, k1, k2⟩ := cmpT_ok hu hw h
  exact fun F σ H S Q q => we_of (pe_cmpR k1 (pe_we a) (pe_we c) hm) (ha F σ H S _ fun va F1 H1 j1 S1 o1 => hb F1 σ H1 S1 _ fun vb F2 H2 j2 S2 o2 =>
    k2 F2 σ H2 va vb S2 (o1.mono j2) o2 Q fun F3 H3 j3 S3 => q _ F3 H3 (j1.trans (j2.trans j3)) S3 (.bl t))
theorem bt_cmpT (hu : X.A.units + 65 < cLine) {op : CmpOp} {t : Bool} (hw : b.w = X.w) (ha : BO X b a env oa e1) (hb : BO X b c e1 ob e2) (h : cmpE op oa ob e2 = some t) (hm : behindInMarks op c = false) : BT X b (.Compare a [op] [c] pos) env t e2 := by
  obtain ⟨r, k1, k2⟩ := cmpT_ok hu hw h
  exact fun F σ H S Q q => wt_of (pt_cmpR k1 (pe_we a) (pe_we c) hm) (ha F σ H S _ fun va F1 H1 j1 S1 o1 => hb F1 σ H1 S1 _ fun vb F2 H2 j2 S2 o2 =>
    k2 F2 σ H2 va vb S2 (o1.mono j2) o2 _ fun F3 H3 j3 S3 => ⟨t, rfl, q F3 H3 (j1.trans (j2.trans j3)) S3⟩)
/-- a op1 c op2 e: both ways -/
theorem be_chn (hu : X.A.units + 65 < cLine) {o1 o2 : CmpOp} {t u : Bool} (ha : BO X b a env oa e1) (hb : BO X b c e1 ob e2) (rx : rdO e2 oa = some x) (ry : rdO e2 ob = some y) (h : cmpD o1 x y = some t)
    (h0 : t = false → u = false ∧ e3 = e2) (h1 : t = true → BO X b e e2 oc e3 ∧ rdO e3 ob = some y' ∧ rdO e3 oc = some z ∧ cmpD o2 y' z = some u) (hm : behindInMarks o2 e = false) : BE X b (.Compare a [o1, o2] [c, e] pos) env (.bool u) false e3 := by
  obtain ⟨r, k1, k2⟩ := cmp_ok (X := X) (env := e2) hu h
  intro F σ H S Q q
  cases t with
  | false =>
    obtain ⟨rfl, rfl⟩ := h0 rfl
    refine we_of (pe_chain (r' := fun _ _ _ _ => False) k1 (fun _ _ _ _ _ _ _ _ _ _ _ _ z => z.elim) (pe_we a) (pe_we c) (pe_we e) hm) (ha F σ H S _ fun va F1 H1 g1 S1 p1 => hb F1 σ H1 S1 _ fun vb F2 H2 g2 S2 p2 => ?_)
    exact k2 b F2 σ H2 va vb S2 (S2.rd (p1.mono g2) rx) (S2.rd p2 ry) _ fun v F3 H3 g3 S3 rz => by
      cases rz
      exact ⟨false, rfl, iteF (q _ F3 H3 (g1.trans (g2.trans g3)) S3 (.bl _))⟩
  | true =>
    obtain ⟨hc, ry', rz, h2⟩ := h1 rfl
    obtain ⟨r', j1, j2⟩ := cmp_ok (X := X) (env := e3) hu h2
    refine we_of (pe_chain k1 j1 (pe_we a) (pe_we c) (pe_we e) hm) (ha F σ H S _ fun va F1 H1 g1 S1 p1 => hb F1 σ H1 S1 _ fun vb F2 H2 g2 S2 p2 => ?_)
    exact k2 b F2 σ H2 va vb S2 (S2.rd (p1.mono g2) rx) (S2.rd p2 ry) _ fun v F3 H3 g3 S3 rb => by
      cases rb
      refine ⟨true, rfl, iteT (hc F3 σ H3 S3 _ fun vc F4 H4 g4 S4 p4 => ?_)⟩
      exact j2 b F4 σ H4 vb vc S4 (S4.rd ((p2.mono g3).mono g4) ry') (S4.rd p4 rz) Q fun v F5 H5 g5 S5 rw' => q v F5 H5 (g1.trans (g2.trans (g3.trans (g4.trans g5)))) S5 rw'
theorem bt_chn (hu : X.A.units + 65 < cLine) {o1 o2 : CmpOp} {t u : Bool} (ha : BO X b a env oa e1) (hb : BO X b c e1 ob e2) (rx : rdO e2 oa = some x) (ry : rdO e2 ob = some y) (h : cmpD o1 x y = some t)
    (h0 : t = false → u = false ∧ e3 = e2) (h1 : t = true → BO X b e e2 oc e3 ∧ rdO e3 ob = some y' ∧ rdO e3 oc = some z ∧ cmpD o2 y' z = some u) (hm : behindInMarks o2 e = false) : BT X b (.Compare a [o1, o2] [c, e] pos) env u e3 := by
  obtain ⟨r, k1, k2⟩ := cmp_ok (X := X) (env := e2) hu h
  intro F σ H S Q q
  cases t with
  | false =>
    obtain ⟨rfl, rfl⟩ := h0 rfl
    refine wt_of (pt_chain (r' := fun _ _ _ _ => False) k1 (fun _ _ _ _ _ _ _ _ _ _ _ _ z => z.elim) (pe_we a) (pe_we c) (pe_we e) hm) (ha F σ H S _ fun va F1 H1 g1 S1 p1 => hb F1 σ H1 S1 _ fun vb F2 H2 g2 S2 p2 => ?_)
    exact k2 b F2 σ H2 va vb S2 (S2.rd (p1.mono g2) rx) (S2.rd p2 ry) _ fun v F3 H3 g3 S3 rz => by
      cases rz
      exact ⟨false, rfl, iteF ⟨false, rfl, q F3 H3 (g1.trans (g2.trans g3)) S3⟩⟩
  | true =>
    obtain ⟨hc, ry', rz, h2⟩ := h1 rfl
    obtain ⟨r', j1, j2⟩ := cmp_ok (X := X) (env := e3) hu h2
    refine wt_of (pt_chain k1 j1 (pe_we a) (pe_we c) (pe_we e) hm) (ha F σ H S _ fun va F1 H1 g1 S1 p1 => hb F1 σ H1 S1 _ fun vb F2 H2 g2 S2 p2 => ?_)
    exact k2 b F2 σ H2 va vb S2 (S2.rd (p1.mono g2) rx) (S2.rd p2 ry) _ fun v F3 H3 g3 S3 rb => by
      cases rb
      refine ⟨true, rfl, iteT (hc F3 σ H3 S3 _ fun vc F4 H4 g4 S4 p4 => ?_)⟩
      exact j2 b F4 σ H4 vb vc S4 (S4.rd ((p2.mono g3).mono g4) ry') (S4.rd p4 rz) _ fun v F5 H5 g5 S5 rw' => by
        cases rw'
        exact ⟨u, rfl, q F5 H5 (g1.trans (g2.trans (g3.trans (g4.trans g5)))) S5⟩
end
end

/-! ### subscripts -/
section
variable {X : Cx} {b : Bs} {a c : Expr} {pos : Pos} {env e1 e2 : En} {oa ob : Op} {x y z : PyData}
theorem atI_of {K : PySem.W.Frag} {F : Hp} {vs : List V} {ds : List PyData} (r : RvAll K F vs ds) {i : Int} {d : PyData} (h : atI ds i = some d) : ∃ v, atI vs i = some v ∧ Rv K F v d := by
  unfold atI at h ⊢
  rw [r.length]
  cases e : ixN ds.length i with
  | none => rw [e] at h; cases h
  | some j =>
    rw [e] at h
    exact r.get h
theorem be_idx (hu : X.A.units + 1 < cLine) (ha : BO X b a env oa e1) (hb : BO X b c e1 ob e2) (rx : rdS e2 oa = some x) (ry : rdO e2 ob = some y) (h : idxD x y = some z) (hs : PlainIx c) : BE X b (.Subscript a c pos) env z false e2 := by
  intro F σ H S Q q
  unfold idxD at h
  split at h
  · rename_i xs i
    refine we_of (pe_ix ix_list (pe_we a) (pe_we c) hs) (ha F σ H S _ fun va F1 H1 k1 S1 o1 => hb F1 σ H1 S1 _ fun vb F2 H2 k2 S2 o2 => ?_)
    obtain ⟨p, vs, rfl, h1, h2⟩ := (S2.rdS (o1.mono k2) rx).seqL S2.fh
    rw [(S2.rd o2 ry).of_int]
    obtain ⟨v, h3, h4⟩ := atI_of h2 h
    exact ⟨p, vs, i, v, rfl, rfl, h1, h3, q _ F2 H2 (k1.trans k2) S2 h4⟩
  · rename_i xs i
    refine we_of (pe_ix ix_tup (pe_we a) (pe_we c) hs) (ha F σ H S _ fun va F1 H1 k1 S1 o1 => hb F1 σ H1 S1 _ fun vb F2 H2 k2 S2 o2 => ?_)
    obtain ⟨p, vs, rfl, h1, h2⟩ := ((S2.rdS (o1.mono k2) rx).rs_of fun _ e => nomatch e).seqT S2.fh
    rw [(S2.rd o2 ry).of_int]
    obtain ⟨v, h3, h4⟩ := atI_of h2 h
    exact ⟨p, vs, i, v, rfl, rfl, h1, h3, q _ F2 H2 (k1.trans k2) S2 h4⟩
  · rename_i w i
    refine we_of (pe_ix ix_str (pe_we a) (pe_we c) hs) (ha F σ H S _ fun va F1 H1 k1 S1 o1 => hb F1 σ H1 S1 _ fun vb F2 H2 k2 S2 o2 => ?_)
    have rs := ((S2.rdS (o1.mono k2) rx).rs_of fun _ e => nomatch e)
    have hl : w.length ≤ lim := by cases rs with | fz k => cases k with | str _ hl => exact hl
    rw [rs.of_str, (S2.rd o2 ry).of_int]
    cases e : atI w.cps.toList i with
    | none => rw [e] at h; cases h
    | some cc =>
      rw [e] at h; cases h
      exact ⟨w, i, cc, rfl, rfl, by rw [← lim_eq]; exact hl, e, q _ F2 H2 (k1.trans k2) S2 (.str _ (by show 1 ≤ lim; decide))⟩
  · rename_i kvs k
    split at h
    · rename_i kk hk
      refine we_of (pe_dget hu (pe_we a) (pe_we c) hs) (ha F σ H S _ fun va F1 H1 k1 S1 o1 => hb F1 σ H1 S1 _ fun vb F2 H2 k2 S2 o2 => ?_)
      obtain ⟨p, vs, rfl, h1, h2⟩ := ((S2.rdS (o1.mono k2) rx).rs_of fun _ e => nomatch e).dctK S2.fh
      have hl := h2.look kk
      rw [keyOf_keyD hk, h] at hl
      cases e : valV vs kk with
      | none => rw [e] at hl; exact hl.elim
      | some v =>
        rw [e] at hl
        exact ⟨p, v, rfl, by rw [(S2.rd o2 ry).key hk, ← e]; exact DGet.k h1, q _ F2 H2 (k1.trans k2) S2 hl⟩
    · cases h
  · cases h
end

/-! ### isinstance -/
section
variable {X : Cx} {b : Bs} {a : Expr} {pos : Pos} {env e1 : En} {oa : Op} {x : PyData}
theorem RS.ty {K : PySem.W.Frag} {F H : Hp} {v : V} {d : PyData} (e : Same F H) (h : RS K F H v d) : TyX K H v (.type (tyN d)) := by
  cases d with
  | none => rw [h.of_none]; exact .base .non
  | bool x => rw [h.of_bool]; exact .base (.bl x)
  | int x => rw [h.of_int]; exact .base (.int x)
  | str x => rw [h.of_str]; exact .base (.str x)
  | list ds => obtain ⟨p, vs, rfl, h1, _⟩ := h.lstH e; exact .base (.lst h1)
  | tuple ds =>
    obtain ⟨p, vs, rfl, h1, _⟩ := h.seqT e
    rcases h1 with (h1 | ⟨o, h1⟩) | ⟨o, its, n, h1, h2, _⟩
    · exact .base (.tup h1)
    · exact .fTuple h1
    · exact .kTuple h1 h2
  | dict ds => obtain ⟨p, vs, rfl, h1, _⟩ := h.dctK e; exact .base (.dK h1)
def tyOks : List String := ["int", "bool", "str", "list", "tuple", "dict"]
theorem kit_all : (["NoneType", "bool", "int", "str", "list", "tuple", "dict"].all fun a => tyOks.all fun T => decide (kitB a T = some (decide (a = T) || (decide (a = "bool") && decide (T = "int"))))) = true := by decide +kernel
theorem kit_one (x : PyData) {T : String} (hT : T ∈ tyOks) {t : Bool} (h : isiD T x = some t) : kitB (tyN x) T = some t := by
  have k := List.all_eq_true.mp kit_all (tyN x) (by cases x <;> simp [tyN])
  have k2 := of_decide_eq_true (List.all_eq_true.mp k T hT)
  rw [k2, ← h]
  cases x with
  | none => simp [isiD, tyN, eq_comm]
  | bool y =>
    simp only [isiD, tyN]
    by_cases e : T = "bool"
    · subst e; rfl
    · by_cases e2 : T = "int"
      · subst e2; rfl
      · simp [e, e2, eq_comm]
  | int y => simp [isiD, tyN, eq_comm]
  | str y => simp [isiD, tyN, eq_comm]
  | list y => simp [isiD, tyN, eq_comm]
  | tuple y => simp [isiD, tyN, eq_comm]
  | dict y => simp [isiD, tyN, eq_comm]
theorem boots_ty {T : String} (hT : T ∈ tyOks) : bootBuiltins (Str.ofString T) = some (.type T) ∧ (Str.ofString T) ≠ "__name__" ∧ (Str.ofString T == ("__debug__" : Str)) = false := by
  simp only [tyOks, List.mem_cons, List.not_mem_nil, or_false] at hT
  rcases hT with rfl | rfl | rfl | rfl | rfl | rfl
  · exact ⟨boot_int, by decide, by decide⟩
  · exact ⟨boot_bool, by decide, by decide⟩
  · exact ⟨boot_str, by decide, by decide⟩
  · exact ⟨boot_list, by decide, by decide⟩
  · exact ⟨boot_tuple, by decide, by decide⟩
  · exact ⟨boot_dict, by decide, by decide⟩
theorem be_isi {T : String} {p1 p2 : Pos} {t : Bool} (hT : T ∈ tyOks) (g1 : Gl X "isinstance") (m1 : X.mg "isinstance" = none) (g2 : Gl X (Str.ofString T)) (m2 : X.mg (Str.ofString T) = none) (ns : starEach [a, .Name (Str.ofString T) p2] X.env = (false, eval a X.env) :: starEach [.Name (Str.ofString T) p2] X.env)
    (ha : BO X b a env oa e1) (rx : rdO e1 oa = some x) (h : isiD T x = some t) : BE X b (.Call (.Name "isinstance" p1) [a, .Name (Str.ofString T) p2] [] pos) env (.bool t) false e1 := by
  obtain ⟨k1, k2, k3⟩ := boots_ty hT
  intro F σ H S Q q
  refine we_of (pe_callB call_isi g1 m1 boot_isinstance (pa_cons (pe_we a) (pa_cons (pe_bltn g2 m2 k1 (v := .ty T) rfl k2 k3) pa_nil) ns) (by decide) (by decide) ns) (ha F σ H S _ fun va F1 H1 g S1 o1 => ?_)
  exact ⟨va, .ty T, _, _, t, rfl, .ty T, (S1.rd o1 rx).ty S1.fh, kit_ty (kit_one x hT h), q _ F1 H1 g S1 (.bl _)⟩
end

/-! ### displays -/
section
variable {X : Cx} {b : Bs} {es : List Expr} {e : Expr} {pos : Pos} {env e1 e2 : En} {ds : List PyData} {d : PyData}
theorem ba_nil : BA X b [] env [] env := fun F σ H S Q q => wa_of pa_nil (q [] F H (Same.refl F) S .nil)
theorem ba_cons (ha : BE X b e env d false e1) (hr : BA X b es e1 ds e2) (ns : starEach (e :: es) X.env = (false, eval e X.env) :: starEach es X.env) : BA X b (e :: es) env (d :: ds) e2 := fun F σ H S Q q =>
  wa_of (pa_cons (pe_we e) (pa_wa es) ns) (ha F σ H S _ fun v F1 H1 k1 S1 r1 => hr F1 σ H1 S1 _ fun vs F2 H2 k2 S2 r2 => q (v :: vs) F2 H2 (k1.trans k2) S2 (.cons (Rv.mono k2 r1) r2))
theorem bao_nil : BAO X b [] env [] env := fun F σ H S Q q => wa_of pa_nil (q [] F H (Same.refl F) S .nil)
theorem bao_cons {o : Op} {os : List Op} (ha : BO X b e env o e1) (hr : BAO X b es e1 os e2) (ns : starEach (e :: es) X.env = (false, eval e X.env) :: starEach es X.env) : BAO X b (e :: es) env (o :: os) e2 := fun F σ H S Q q =>
  wa_of (pa_cons (pe_we e) (pa_wa es) ns) (ha F σ H S _ fun v F1 H1 k1 S1 r1 => hr F1 σ H1 S1 _ fun vs F2 H2 k2 S2 r2 => q (v :: vs) F2 H2 (k1.trans k2) S2 (.cons (r1.mono k2) r2))
theorem be_tup {k : Nat} (h : BA X b es env ds e1) (hl : ds.length ≤ lim) : BE X b (.Tuple es k pos) env (.tuple ds) false e1 := fun F σ H S Q q =>
  we_of (pe_tup (pa_wa es)) (h F σ H S _ fun vs F1 H1 k1 S1 r1 => ⟨by rw [r1.length, ← lim_eq]; exact hl, fun p hp => by
    obtain ⟨j1, j2, j3⟩ := S1.mkT hp r1
    exact q _ _ _ (k1.trans j1) j2 j3⟩)
theorem be_lst (h : BA X b es env ds e1) (hl : ds.length ≤ lim) : BE X b (.List es pos) env (.list ds) true e1 := fun F σ H S Q q =>
  we_of (pe_lst (pa_wa es)) (h F σ H S _ fun vs F1 H1 k1 S1 r1 => ⟨by rw [r1.length, ← lim_eq]; exact hl, fun p hp => by
    obtain ⟨j1, j2⟩ := S1.mkL hp r1
    exact q _ _ _ k1 j1 j2⟩)
theorem be_dct0 : BE X b (.Dict [] [] pos) env (.dict []) true env := fun F σ H S Q q =>
  we_of pe_dnewK fun p hp => by
    obtain ⟨j1, j2⟩ := S.mkD hp (.nil (K := X.K) (F := F))
    exact q _ _ _ (Same.refl F) j1 j2
end

/-! ### slices -/
section
variable {X : Cx} {b : Bs} {a : Expr} {pos p2 : Pos} {env e1 e2 e3 : En} {oa : Op} {x z : PyData} {lo hi : Option Expr} {il ih : Option Int}
def BP (X : Cx) (b : Bs) (e : Option Expr) (env : En) (o : Option Int) (env' : En) : Prop :=
  ∃ t, PO X e t ∧ ∀ F σ H, Stt X.K b F σ H env → ∀ Q : Option Int → Hp → Prop, (∀ F' H', Same F F' → Stt X.K b F' σ H' env' → Q o H') → t σ H Q
theorem bp_none : BP X b none env none env := ⟨_, po_none, fun F σ H S Q q => q F H (Same.refl F) S⟩
theorem bp_some {e : Expr} {i : Int} (h : BE X b e env (.int i) false e1) : BP X b (some e) env (some i) e1 := ⟨_, po_some (pe_we e), fun F σ H S Q q => h F σ H S _ fun v F1 H1 k1 S1 r => by
  cases r
  exact ⟨i, rfl, q F1 H1 k1 S1⟩⟩
theorem RvAll.cut {K : PySem.W.Frag} {F : Hp} {vs : List V} {ds : List PyData} (r : RvAll K F vs ds) : RvAll K F (cutV vs il ih) (cutL ds il ih) := by
  unfold cutV cutL
  rw [r.length]
  exact (r.drop _).take _
theorem cutL_whole {α : Type} {xs : List α} (h : HT.sIx xs.length 0 il = 0 ∧ HT.sIx xs.length xs.length ih = xs.length) : cutL xs il ih = xs := by
  unfold cutL
  rw [h.1, h.2, List.drop_zero, Nat.sub_zero, List.take_length]
def frS (z : PyData) : Bool := match z with
  | .list _ => true
  | _ => false
theorem be_slc (ha : BO X b a env oa e1) (hl : BP X b lo e1 il e2) (hh : BP X b hi e2 ih e3) (rx : rdO e3 oa = some x) (h : slcD il ih x = some z) : BE X b (.Subscript a (.Slice lo hi none p2) pos) env z (frS z) e3 := by
  obtain ⟨tl, pl, ql⟩ := hl
  obtain ⟨th, ph, qh⟩ := hh
  intro F σ H S Q q
  unfold slcD at h
  split at h
  · rename_i xs
    cases h
    refine we_of (pe_slice sl_list (pe_we a) pl ph) (ha F σ H S _ fun va F1 H1 k1 S1 o1 => ql F1 σ H1 S1 _ fun F2 H2 k2 S2 => qh F2 σ H2 S2 _ fun F3 H3 k3 S3 => ?_)
    obtain ⟨p, vs, rfl, h1, h2⟩ := (S3.rd ((o1.mono k2).mono k3) rx).seqL S3.fh
    refine ⟨p, vs, rfl, h1, fun l hl => ?_⟩
    obtain ⟨j1, j2⟩ := S3.mkL hl (h2.cut (il := il) (ih := ih))
    exact q _ _ _ (k1.trans (k2.trans k3)) j1 j2
  · rename_i xs
    cases h
    refine we_of (pe_slice sl_tupA (pe_we a) pl ph) (ha F σ H S _ fun va F1 H1 k1 S1 o1 => ql F1 σ H1 S1 _ fun F2 H2 k2 S2 => qh F2 σ H2 S2 _ fun F3 H3 k3 S3 => ?_)
    have rs := S3.rd ((o1.mono k2).mono k3) rx
    obtain ⟨p, vs, rfl, h1, h2⟩ := rs.seqT S3.fh
    have rv : Rv X.K F3 (.ref p) (.tuple xs) := by cases rs with | fz k => exact k
    refine ⟨p, vs, rfl, h1, fun hw => ?_, fun _ l hl => ?_⟩
    · rw [h2.length] at hw
      rw [cutL_whole hw] at q
      exact q _ _ _ (k1.trans (k2.trans k3)) S3 rv
    · obtain ⟨j1, j2, j3⟩ := S3.mkT hl (h2.cut (il := il) (ih := ih))
      exact q _ _ _ ((k1.trans (k2.trans k3)).trans j1) j2 j3
  · rename_i w
    cases h
    refine we_of (pe_slice sl_str (pe_we a) pl ph) (ha F σ H S _ fun va F1 H1 k1 S1 o1 => ql F1 σ H1 S1 _ fun F2 H2 k2 S2 => qh F2 σ H2 S2 _ fun F3 H3 k3 S3 => ?_)
    have rs := S3.rd ((o1.mono k2).mono k3) rx
    have hw : w.length ≤ lim := by cases rs with | fz k => cases k with | str _ hl => exact hl
    rw [rs.of_str]
    exact ⟨w, rfl, by rw [← lim_eq]; exact hw, q _ _ _ (k1.trans (k2.trans k3)) S3 (.str _ (Nat.le_trans (cutS_length w il ih) hw))⟩
  · cases h
end
end Mi

set_option maxHeartbeats 2000000
/-! D7: built-in functions and methods, by values. -/
namespace Mi
open PySem PySem.Spec PyProof.Rows L2

inductive RSAll (K : PySem.W.Frag) (F H : Hp) : List V → List PyData → Prop
  | nil : RSAll K F H [] []
  | cons {v : V} {vs : List V} {d : PyData} {ds : List PyData} : RS K F H v d → RSAll K F H vs ds → RSAll K F H (v :: vs) (d :: ds)
inductive RSsAll (K : PySem.W.Frag) (F H : Hp) : List V → List PyData → Prop
  | nil : RSsAll K F H [] []
  | cons {v : V} {vs : List V} {d : PyData} {ds : List PyData} : RSs K F H v d → RSsAll K F H vs ds → RSsAll K F H (v :: vs) (d :: ds)
section
variable {K : PySem.W.Frag} {b : Bs} {F : Hp} {σ : L2.St} {H : Hp} {env : En}
theorem Stt.rds (S : Stt K b F σ H env) : ∀ {os : List Op} {vs : List V} {ds : List PyData}, OpsOk K F σ vs os → rdOs env os = some ds → RSAll K F H vs ds
  | [], _, _, .nil, r => by cases r; exact .nil
  | o :: os, _, ds, .cons h t, r => by
    have r' : ((rdO env o).bind fun d => (rdOs env os).map (d :: ·)) = some ds := r
    cases e1 : rdO env o with
    | none => rw [e1] at r'; cases r'
    | some d =>
      rw [e1] at r'
      obtain ⟨es, e2, rfl⟩ := Option.map_eq_some_iff.mp r'
      exact .cons (S.rd h e1) (S.rds t e2)
theorem Stt.rdSs (S : Stt K b F σ H env) : ∀ {os : List Op} {vs : List V} {ds : List PyData}, OpsOk K F σ vs os → rdSs env os = some ds → RSsAll K F H vs ds
  | [], _, _, .nil, r => by cases r; exact .nil
  | o :: os, _, ds, .cons h t, r => by
    have r' : ((Mi.rdS env o).bind fun d => (Mi.rdSs env os).map (d :: ·)) = some ds := r
    cases e1 : Mi.rdS env o with
    | none => rw [e1] at r'; cases r'
    | some d =>
      rw [e1] at r'
      obtain ⟨es, e2, rfl⟩ := Option.map_eq_some_iff.mp r'
      exact .cons (S.rdS h e1) (S.rdSs t e2)
theorem RSAll.one {vs : List V} {d : PyData} (h : RSAll K F H vs [d]) : ∃ v, vs = [v] ∧ RS K F H v d := by
  cases h with | cons h t => cases t; exact ⟨_, rfl, h⟩
theorem RSAll.two {vs : List V} {d e : PyData} (h : RSAll K F H vs [d, e]) : ∃ v w, vs = [v, w] ∧ RS K F H v d ∧ RS K F H w e := by
  cases h with | cons h t => cases t with | cons h2 t => cases t; exact ⟨_, _, rfl, h, h2⟩
theorem RSsAll.one {vs : List V} {d : PyData} (h : RSsAll K F H vs [d]) : ∃ v, vs = [v] ∧ RSs K F H v d := by
  cases h with | cons h t => cases t; exact ⟨_, rfl, h⟩
end

/-! ### ints as texts -/
theorem ofString_length (s : String) : (Str.ofString s).length = s.toList.length := by
  show (Str.ofString s).cps.size = _
  rw [← Array.length_toList, PyProof.Rows.signs_ofString, List.length_map]
theorem len_num (n k : Nat) (h : n < 10 ^ (k + 1)) : (Nat.repr n).toList.length ≤ k + 1 := by
  have e : (Str.ofString (toString (n : Int))).cps.toList.length = (TL.numL n).length := by rw [← TL.tl_num]
  rw [PyProof.Rows.signs_ofString, List.length_map] at e
  have e2 : toString ((n : Nat) : Int) = Nat.repr n := rfl
  rw [e2] at e
  rw [e]
  exact TL.numL_len (Nat.succ_pos k) h
theorem pow_le (n : Nat) : (2 : Nat) ^ n ≤ 10 ^ n := Nat.pow_le_pow_left (by decide) n
theorem len_str_int {i : Int} (h : i.natAbs.log2 < 1920) : (Str.ofString (toString i)).length ≤ lim := by
  rw [ofString_length]
  have hb : i.natAbs < 10 ^ 1920 := by
    by_cases h0 : i.natAbs = 0
    · rw [h0]; exact Nat.pow_pos (by decide)
    · exact Nat.lt_of_lt_of_le ((Nat.log2_lt h0).mp h) (pow_le 1920)
  cases i with
  | ofNat n =>
    have := len_num n 1919 hb
    show (Nat.repr n).toList.length ≤ lim
    exact Nat.le_trans this (by decide)
  | negSucc n =>
    have := len_num (n + 1) 1919 hb
    have e : toString (Int.negSucc n) = "-" ++ Nat.repr (n + 1) := rfl
    rw [e, String.toList_append, List.length_append]
    have : ("-" : String).toList.length = 1 := by decide
    have : (1 + 1920 : Nat) ≤ lim := by decide
    omega

/-! ### built-in functions -/
theorem notStar_nil {X : Cx} {e : Expr} (h : starEach [e] X.env = (false, eval e X.env) :: starEach [] X.env) : starEach [e] X.env = [(false, eval e X.env)] := h
section
variable {X : Cx} {b : Bs} {e : Expr} {es : List Expr} {pos p : Pos} {x : Str} {env e1 : En} {os : List Op} {ds : List PyData} {z : PyData} {fr : Bool} {r : List V → Hp → VK → Prop}
/-- a call of a built-in, by values -/
def CbD (X : Cx) (r : List V → Hp → VK → Prop) (env : En) (ds : List PyData) (z : PyData) (fr : Bool) : Prop :=
  ∀ b F σ H vs, Stt X.K b F σ H env → RSAll X.K F H vs ds → ∀ Q : VK, (∀ v F' H', Same F F' → Stt X.K b F' σ H' env → Rz X.K b F' σ H' env v z fr → Q v H') → r vs H Q
theorem be_cb {id : String} (hc : CallR X (.builtin id) r) (hg : Gl X x) (hm : X.mg x = none) (hv : bootBuiltins x = some (.builtin id)) (hn : x ≠ "__name__") (hdb : (x == ("__debug__" : Str)) = false)
    (he : starEach (e :: es) X.env = (false, eval e X.env) :: starEach es X.env) (hpl : (backTo pos (starEach es X.env)).any (·.1) = false)
    (ha : BAO X b (e :: es) env os e1) (rd : rdOs e1 os = some ds) (h : CbD X r e1 ds z fr) : BE X b (.Call (.Name x p) (e :: es) [] pos) env z fr e1 := fun F σ H S Q q =>
  we_of (pe_callB hc hg hm hv (pa_wa (e :: es)) hn hdb he hpl) (ha F σ H S _ fun vs F1 H1 k1 S1 o1 => h b F1 σ H1 vs S1 (S1.rds o1 rd) Q fun v F2 H2 k2 S2 r2 => q v F2 H2 (k1.trans k2) S2 r2)
theorem be_cbS {id : String} (hc : CallR X (.builtin id) r) (hg : Gl X x) (hm : X.mg x = none) (hv : bootBuiltins x = some (.builtin id)) (hn : x ≠ "__name__") (hdb : (x == ("__debug__" : Str)) = false)
    (he : starEach (e :: es) X.env = (false, eval e X.env) :: starEach es X.env) (hpl : (backTo pos (starEach es X.env)).any (·.1) = false)
    (ha : BAO X b (e :: es) env os e1) (rd : rdSs e1 os = some ds)
    (h : ∀ F σ H vs, Stt X.K b F σ H e1 → RSsAll X.K F H vs ds → ∀ Q : VK, (∀ v F' H', Same F F' → Stt X.K b F' σ H' e1 → Rz X.K b F' σ H' e1 v z fr → Q v H') → r vs H Q) : BE X b (.Call (.Name x p) (e :: es) [] pos) env z fr e1 := fun F σ H S Q q =>
  we_of (pe_callB hc hg hm hv (pa_wa (e :: es)) hn hdb he hpl) (ha F σ H S _ fun vs F1 H1 k1 S1 o1 => h F1 σ H1 vs S1 (S1.rdSs o1 rd) Q fun v F2 H2 k2 S2 r2 => q v F2 H2 (k1.trans k2) S2 r2)
theorem be_ct {T : String} (hc : CallR X (.type T) r) (hg : Gl X x) (hm : X.mg x = none) (hv : bootBuiltins x = some (.type T)) (hn : x ≠ "__name__") (hdb : (x == ("__debug__" : Str)) = false)
    (he : starEach (e :: es) X.env = (false, eval e X.env) :: starEach es X.env) (hpl : (backTo pos (starEach es X.env)).any (·.1) = false)
    (ha : BAO X b (e :: es) env os e1) (rd : rdOs e1 os = some ds) (h : CbD X r e1 ds z fr) : BE X b (.Call (.Name x p) (e :: es) [] pos) env z fr e1 := fun F σ H S Q q =>
  we_of (pe_callTy hc hg hm hv (pa_wa (e :: es)) hn hdb he hpl) (ha F σ H S _ fun vs F1 H1 k1 S1 o1 => h b F1 σ H1 vs S1 (S1.rds o1 rd) Q fun v F2 H2 k2 S2 r2 => q v F2 H2 (k1.trans k2) S2 r2)
end
theorem allBools_map : ∀ {ds : List PyData} {bs : List Bool}, allBools ds = some bs → ds = bs.map .bool
  | [], _, h => by cases h; rfl
  | .bool b :: r, _, h => by
    obtain ⟨bs, e, rfl⟩ := Option.map_eq_some_iff.mp (show (allBools r).map (b :: ·) = some _ from h)
    rw [List.map_cons, ← allBools_map e]
theorem allStrs_map : ∀ {ds : List PyData} {xs : List Str}, allStrs ds = some xs → ds = xs.map .str
  | [], _, h => by cases h; rfl
  | .str b :: r, _, h => by
    obtain ⟨bs, e, rfl⟩ := Option.map_eq_some_iff.mp (show (allStrs r).map (b :: ·) = some _ from h)
    rw [List.map_cons, ← allStrs_map e]
def bfName : BF → Str
  | .len => "len" | .abs => "abs" | .min2 => "min" | .max2 => "max" | .int1 => "int" | .str1 => "str" | .all => "all" | .any => "any"
  | .listOf => "list" | .tupleOf => "tuple" | .divmod => "divmod"
def frF (f : BF) (z : PyData) : Bool := match f, z with
  | .listOf, .list _ => true
  | _, _ => false
section
variable {X : Cx} {b : Bs} {e : Expr} {es : List Expr} {pos p : Pos} {env e1 : En} {os : List Op} {ds : List PyData} {z : PyData}
theorem be_len (hg : Gl X "len") (hm : X.mg "len" = none) (he : starEach (e :: es) X.env = (false, eval e X.env) :: starEach es X.env) (hpl : (backTo pos (starEach es X.env)).any (·.1) = false)
    (ha : BAO X b (e :: es) env os e1) (rd : rdSs e1 os = some ds) (h : bltD .len ds = some z) : BE X b (.Call (.Name "len" p) (e :: es) [] pos) env z false e1 := by
  obtain ⟨d, hd, n, hn, rfl⟩ : ∃ d, ds = [d] ∧ ∃ n : Nat, lenD d = some n ∧ z = .int n := by
    match ds, h with
    | [d], h => exact ⟨d, rfl, let ⟨n, e, q⟩ := Option.map_eq_some_iff.mp (show (lenD d).map (fun n : Nat => PyData.int (n : Int)) = some z from h); ⟨n, e, q.symm⟩⟩
  subst hd
  cases d with
  | dict kvs =>
    cases hn
    refine be_cbS call_lenD hg hm boot_len (by decide) (by decide) he hpl ha rd fun F σ H vs S r Q q => ?_
    obtain ⟨v, rfl, hv⟩ := r.one
    obtain ⟨pp, ks, rfl, h1, h2⟩ := (hv.rs_of fun _ e => nomatch e).dctK S.fh
    exact ⟨pp, ks, rfl, h1, q _ F H (Same.refl F) S (by rw [h2.length]; exact .int _)⟩
  | str w =>
    cases hn
    refine be_cbS call_len hg hm boot_len (by decide) (by decide) he hpl ha rd fun F σ H vs S r Q q => ?_
    obtain ⟨v, rfl, hv⟩ := r.one
    have rs := hv.rs_of fun _ e => nomatch e
    have hw : w.length ≤ lim := by cases rs with | fz k => cases k with | str _ hl => exact hl
    rw [rs.of_str]
    exact ⟨.str w, w.length, rfl, ⟨by rw [← lim_eq]; exact hw, rfl⟩, q _ F H (Same.refl F) S (.int _)⟩
  | list xs =>
    cases hn
    refine be_cbS call_len hg hm boot_len (by decide) (by decide) he hpl ha rd fun F σ H vs S r Q q => ?_
    obtain ⟨v, rfl, hv⟩ := r.one
    obtain ⟨pp, ks, rfl, h1, h2⟩ := hv.seqL S.fh
    exact ⟨.ref pp, ks.length, rfl, .inl ⟨ks, h1, rfl⟩, q _ F H (Same.refl F) S (by rw [h2.length]; exact .int _)⟩
  | tuple xs =>
    cases hn
    refine be_cbS call_len hg hm boot_len (by decide) (by decide) he hpl ha rd fun F σ H vs S r Q q => ?_
    obtain ⟨v, rfl, hv⟩ := r.one
    obtain ⟨pp, ks, rfl, h1, h2⟩ := (hv.rs_of fun _ e => nomatch e).seqT S.fh
    exact ⟨.ref pp, ks.length, rfl, .inr ⟨ks, h1, rfl⟩, q _ F H (Same.refl F) S (by rw [h2.length]; exact .int _)⟩
  | none => cases hn
  | bool _ => cases hn
  | int _ => cases hn
/-- the built-ins that are told by their values alone -/
theorem be_blt (hc : X.calm = true) {f : BF} (nl : f ≠ .len) (hg : Gl X (bfName f)) (hm : X.mg (bfName f) = none) (he : starEach (e :: es) X.env = (false, eval e X.env) :: starEach es X.env) (hpl : (backTo pos (starEach es X.env)).any (·.1) = false)
    (ha : BAO X b (e :: es) env os e1) (rd : rdOs e1 os = some ds) (h : bltD f ds = some z) : BE X b (.Call (.Name (bfName f) p) (e :: es) [] pos) env z (frF f z) e1 := by
  unfold bltD at h
  split at h
  · exact (nl rfl).elim
  · rename_i i
    cases h
    refine be_cb call_abs hg hm boot_abs (by decide) (by decide) he hpl ha rd fun b F σ H vs S r Q q => ?_
    obtain ⟨v, rfl, hv⟩ := r.one
    rw [hv.of_int]
    exact ⟨i, rfl, q _ F H (Same.refl F) S (.int _)⟩
  · rename_i i j
    cases h
    refine be_cb (call_min2 hc) hg hm (by decide +kernel) (by decide) (by decide) he hpl ha rd fun b F σ H vs S r Q q => ?_
    obtain ⟨v, w, rfl, hv, hw⟩ := r.two
    rw [hv.of_int, hw.of_int]
    exact ⟨i, j, rfl, q _ F H (Same.refl F) S (.int _)⟩
  · rename_i i j
    cases h
    refine be_cb (call_max2 hc) hg hm (by decide +kernel) (by decide) (by decide) he hpl ha rd fun b F σ H vs S r Q q => ?_
    obtain ⟨v, w, rfl, hv, hw⟩ := r.two
    rw [hv.of_int, hw.of_int]
    exact ⟨i, j, rfl, q _ F H (Same.refl F) S (.int _)⟩
  · rename_i i
    cases h
    refine be_ct call_int1 hg hm boot_int (by decide) (by decide) he hpl ha rd fun b F σ H vs S r Q q => ?_
    obtain ⟨v, rfl, hv⟩ := r.one
    rw [hv.of_int]
    exact .inl ⟨i, rfl, q _ F H (Same.refl F) S (.int _)⟩
  · rename_i i
    split at h
    · rename_i hl
      cases h
      refine be_ct call_str_int hg hm boot_str (by decide) (by decide) he hpl ha rd fun b F σ H vs S r Q q => ?_
      obtain ⟨v, rfl, hv⟩ := r.one
      rw [hv.of_int]
      exact ⟨i, rfl, hl, q _ F H (Same.refl F) S (.str _ (len_str_int hl))⟩
    · cases h
  · rename_i xs
    obtain ⟨bs, e1, rfl⟩ := Option.map_eq_some_iff.mp h
    have e2 := allBools_map e1
    refine be_cb (cr_all hc) hg hm (by decide +kernel) (by decide) (by decide) he hpl ha rd fun b F σ H vs S r Q q => ?_
    obtain ⟨v, rfl, hv⟩ := r.one
    obtain ⟨pp, ks, rfl, h1, h2⟩ := hv.seqL S.fh
    rw [e2] at h2
    rw [h2.to_bools] at h1
    exact ⟨pp, bs, rfl, h1, q _ F H (Same.refl F) S (.bl _)⟩
  · rename_i xs
    obtain ⟨bs, e1, rfl⟩ := Option.map_eq_some_iff.mp h
    have e2 := allBools_map e1
    refine be_cb (cr_any hc) hg hm (by decide +kernel) (by decide) (by decide) he hpl ha rd fun b F σ H vs S r Q q => ?_
    obtain ⟨v, rfl, hv⟩ := r.one
    obtain ⟨pp, ks, rfl, h1, h2⟩ := hv.seqL S.fh
    rw [e2] at h2
    rw [h2.to_bools] at h1
    exact ⟨pp, bs, rfl, h1, q _ F H (Same.refl F) S (.bl _)⟩
  · rename_i xs
    cases h
    refine be_ct call_list_of hg hm boot_list (by decide) (by decide) he hpl ha rd fun b F σ H vs S r Q q => ?_
    obtain ⟨v, rfl, hv⟩ := r.one
    obtain ⟨pp, ks, rfl, h1, h2⟩ := hv.seqL S.fh
    refine ⟨pp, ks, rfl, .inl h1, fun l hl => ?_⟩
    obtain ⟨j1, j2⟩ := S.mkL hl h2
    exact q _ _ _ (Same.refl F) j1 j2
  · rename_i xs
    cases h
    refine be_ct call_list_of hg hm boot_list (by decide) (by decide) he hpl ha rd fun b F σ H vs S r Q q => ?_
    obtain ⟨v, rfl, hv⟩ := r.one
    obtain ⟨pp, ks, rfl, h1, h2⟩ := hv.seqT S.fh
    refine ⟨pp, ks, rfl, .inr h1, fun l hl => ?_⟩
    obtain ⟨j1, j2⟩ := S.mkL hl h2
    exact q _ _ _ (Same.refl F) j1 j2
  · rename_i kvs
    cases h
    refine be_ct (call_list_dK hc) hg hm boot_list (by decide) (by decide) he hpl ha rd fun b F σ H vs S r Q q => ?_
    obtain ⟨v, rfl, hv⟩ := r.one
    obtain ⟨pp, ks, rfl, h1, h2⟩ := hv.dctK S.fh
    refine ⟨pp, ks, rfl, h1, fun l hl => ?_⟩
    obtain ⟨j1, j2⟩ := S.mkL hl h2.keys
    exact q _ _ _ (Same.refl F) j1 j2
  · rename_i xs
    cases h
    refine be_ct call_tuple_of hg hm boot_tuple (by decide) (by decide) he hpl ha rd fun b F σ H vs S r Q q => ?_
    obtain ⟨v, rfl, hv⟩ := r.one
    obtain ⟨pp, ks, rfl, h1, h2⟩ := hv.seqL S.fh
    refine ⟨pp, ks, rfl, .inl ⟨h1, fun l hl => ?_⟩⟩
    obtain ⟨j1, j2, j3⟩ := S.mkT hl h2
    exact q _ _ _ j1 j2 j3
  · rename_i xs
    cases h
    refine be_ct call_tuple_of hg hm boot_tuple (by decide) (by decide) he hpl ha rd fun b F σ H vs S r Q q => ?_
    obtain ⟨v, rfl, hv⟩ := r.one
    obtain ⟨pp, ks, rfl, h1, h2⟩ := hv.seqT S.fh
    have rv : Rv X.K F (.ref pp) (.tuple xs) := by cases hv with | fz k => exact k
    exact ⟨pp, ks, rfl, .inr ⟨h1, q _ F H (Same.refl F) S rv⟩⟩
  · rename_i i j
    split at h
    · rename_i hl
      cases h
      refine be_cb call_divmod hg hm boot_divmod (by decide) (by decide) he hpl ha rd fun b F σ H vs S r Q q => ?_
      obtain ⟨v, w, rfl, hv, hw⟩ := r.two
      rw [hv.of_int, hw.of_int]
      refine ⟨i, j, rfl, hl, fun l hl => ?_⟩
      obtain ⟨j1, j2, j3⟩ := S.mkT hl (.cons (.int (i / j)) (.cons (.int (i % j)) (.nil (K := X.K) (F := F))))
      exact q _ _ _ j1 j2 j3
    · cases h
  · cases h
end
end Mi

set_option maxHeartbeats 2000000
/-! D8: methods of texts and dicts, turned lists and tuples. -/
namespace Mi
open PySem PySem.Spec PyProof.Rows L2

/-! ### split, join -/
theorem spl_le (S : List Nat) : ∀ (l : List Nat) (k : Nat) (acc p : List Nat), p ∈ TL.spl S k acc l → p.length ≤ acc.length + l.length
  | [], k, acc, p, h => by
    rw [TL.spl_nil] at h
    rw [List.mem_singleton.mp h]; exact Nat.le_refl _
  | c :: r, 0, acc, p, h => by
    by_cases e : TL.pre S (c :: r) = true
    · rw [TL.spl_hit e] at h
      rcases List.mem_cons.mp h with h | h
      · rw [h]; omega
      · have := spl_le S r _ [] p h
        simp only [List.length_nil, List.length_cons] at *
        omega
    · have e2 : TL.spl S 0 acc (c :: r) = TL.spl S 0 (acc ++ [c]) r := by
        show (if TL.pre S (c :: r) = true then _ else _) = _
        rw [if_neg e]
      rw [e2] at h
      have := spl_le S r 0 _ p h
      simp only [List.length_append, List.length_cons, List.length_nil] at *
      omega
  | c :: r, k + 1, acc, p, h => by
    have := spl_le S r k acc p h
    simp only [List.length_cons] at *
    omega
theorem split_part_le {x y p : Str} (hy : y.length ≠ 0) (h : p ∈ Txt.split x y) : p.length ≤ x.length := by
  by_cases hk : Builtin.Str.strKind x < Builtin.Str.strKind y
  · have e : Txt.split x y = [x] := by
      unfold Txt.split
      rw [if_pos (by simp [hk])]
    rw [e] at h
    rw [List.mem_singleton.mp h]; exact Nat.le_refl _
  · have hy' : TL.tl y ≠ [] := fun e => hy (by
      show y.cps.size = 0
      rw [← Array.length_toList, show y.cps.toList = [] from e]; rfl)
    have e := TL.split_spl x y hy' hk
    have m : TL.tl p ∈ (Txt.split x y).map TL.tl := List.mem_map_of_mem h
    rw [e] at m
    have := spl_le (TL.tl y) (TL.tl x) 0 [] _ m
    have e1 : p.length = (TL.tl p).length := (Array.length_toList).symm
    have e2 : x.length = (TL.tl x).length := (Array.length_toList).symm
    rw [List.length_nil] at this
    omega
section
variable {X : Cx} {b : Bs} {o e f : Expr} {apos pos : Pos} {env e1 e2 e3 : En} {oo oe of_ : Op} {x z k d : PyData} {kvs : List (PyData × PyData)}
theorem be_split {x y : Str} (ho : BO X b o env oo e1) (he : BO X b e e1 oe e2) (rx : rdO e2 oo = some (.str x)) (ry : rdO e2 oe = some (.str y)) (h1 : y.length ≠ 0) (h2 : x.length + 2 ≤ lim)
    (hs : starEach [e] X.env = [(false, eval e X.env)]) (hbase : attributeBase o "split" X.env (eval o X.env) = eval o X.env) (hline : (apos.endLine == pos.line) = true) (hso : ∀ i, oo ≠ .sl i) :
    BE X b (.Call (.Attribute o "split" apos) [e] [] pos) env (.list ((Txt.split x y).map .str)) true e2 := fun F σ H S Q q =>
  we_of (pe_split (pe_we o) (pe_we e) hs hbase hline) (ho F σ H S _ fun va F1 H1 k1 S1 o1 => by
    have ev : va = .str x := by
      cases oo with
      | dt dd => cases rx; cases o1; rfl
      | sl i => exact (hso i rfl).elim
    refine ⟨⟨x, ev⟩, he F1 σ H1 S1 _ fun vb F2 H2 k2 S2 o2 => ?_⟩
    rw [(S2.rd o2 ry).of_str]
    refine ⟨x, y, ev, rfl, by simpa using h1, by rw [← lim_eq]; exact h2, fun l hl => ?_⟩
    obtain ⟨j1, j2⟩ := S2.mkL hl (RvAll.strs (K := X.K) (F := F2) (xs := Txt.split x y) fun p hp => Nat.le_trans (split_part_le h1 hp) (by omega))
    exact q _ _ _ (k1.trans k2) j1 j2)
theorem be_join {x : Str} {ys : List Str} (ho : BO X b o env oo e1) (he : BO X b e e1 oe e2) (rx : rdO e2 oo = some (.str x)) (ry : rdO e2 oe = some (.list (ys.map .str))) (h1 : (ys.map (·.length)).sum + ys.length * x.length ≤ lim) (h2 : (Txt.join x ys).length ≤ lim)
    (hs : starEach [e] X.env = [(false, eval e X.env)]) (hbase : attributeBase o "join" X.env (eval o X.env) = eval o X.env) (hline : (apos.endLine == pos.line) = true) (hso : ∀ i, oo ≠ .sl i) :
    BE X b (.Call (.Attribute o "join" apos) [e] [] pos) env (.str (Txt.join x ys)) false e2 := fun F σ H S Q q =>
  we_of (pe_join (pe_we o) (pe_we e) hs hbase hline) (ho F σ H S _ fun va F1 H1 k1 S1 o1 => by
    have ev : va = .str x := by
      cases oo with
      | dt dd => cases rx; cases o1; rfl
      | sl i => exact (hso i rfl).elim
    refine ⟨⟨x, ev⟩, he F1 σ H1 S1 _ fun vb F2 H2 k2 S2 o2 => ?_⟩
    obtain ⟨p, vs, rfl, g1, g2⟩ := (S2.rd o2 ry).seqL S2.fh
    rw [g2.to_strs] at g1
    exact ⟨x, p, ys, ev, rfl, .inl g1, h1, q _ _ _ (k1.trans k2) S2 (.str _ h2)⟩)
/-- a place of a dict does not move within an expression -/
theorem isD_of {K : PySem.W.Frag} {F H : Hp} {v : V} {ds : List (PyData × PyData)} (S : Same F H) (h : RS K F H v (.dict ds)) : ∃ a, v = .ref a ∧ IsD H a := by
  obtain ⟨p, vs, rfl, h1, _⟩ := h.dctK S
  exact ⟨p, rfl, .inl ⟨vs, .inl h1⟩⟩
theorem be_get1 (hu : X.A.units + 1 < cLine) {kk : Key} {ds0 : List (PyData × PyData)} (ho : BO X b o env oo e1) (r0 : rdO e1 oo = some (.dict ds0)) (he : BO X b e e1 oe e2) (rx : rdO e2 oo = some (.dict kvs)) (ry : rdO e2 oe = some k) (hk : keyOf k = some kk) (m : M1 X o "get" apos e pos) :
    BE X b (.Call (.Attribute o "get" apos) [e] [] pos) env ((lookD kvs k).getD .none) false e2 := fun F σ H S Q q =>
  we_of (pe_dget1 hu (pe_we o) (pe_we e) m) (ho F σ H S _ fun va F1 H1 k1 S1 o1 => by
    obtain ⟨a, ea, hd⟩ := isD_of S1.fh (S1.rd o1 r0)
    refine ⟨a, ea, hd, he F1 σ H1 S1 _ fun vb F2 H2 k2 S2 o2 => ?_⟩
    obtain ⟨p, vs, ep, g1, g2⟩ := (S2.rd (o1.mono k2) rx).dctK S2.fh
    rw [ea] at ep; cases ep
    refine ⟨_, by rw [(S2.rd o2 ry).key hk]; exact DGet.k g1, ?_⟩
    have l := g2.look kk
    rw [keyOf_keyD hk] at l
    refine q _ _ _ (k1.trans k2) S2 ?_
    cases e1 : valV vs kk with
    | none =>
      cases e2 : lookD kvs k with
      | none => exact .non
      | some d => rw [e1, e2] at l; exact l.elim
    | some v =>
      cases e2 : lookD kvs k with
      | none => rw [e1, e2] at l; exact l.elim
      | some d => rw [e1, e2] at l; exact l)
theorem be_get2 (hu : X.A.units + 1 < cLine) {kk : Key} {ds0 : List (PyData × PyData)} (ho : BO X b o env oo e1) (r0 : rdO e1 oo = some (.dict ds0)) (he : BO X b e e1 oe e2) (hf : BE X b f e2 d false e3) (rx : rdO e3 oo = some (.dict kvs)) (ry : rdO e3 oe = some k) (hk : keyOf k = some kk) (m : M2 X o "get" apos e f pos) :
    BE X b (.Call (.Attribute o "get" apos) [e, f] [] pos) env ((lookD kvs k).getD d) false e3 := fun F σ H S Q q =>
  we_of (pe_dget2 hu (pe_we o) (pe_we e) (pe_we f) m) (ho F σ H S _ fun va F1 H1 k1 S1 o1 => by
    obtain ⟨a, ea, hd⟩ := isD_of S1.fh (S1.rd o1 r0)
    refine ⟨a, ea, hd, he F1 σ H1 S1 _ fun vb F2 H2 k2 S2 o2 => hf F2 σ H2 S2 _ fun vc F3 H3 k3 S3 r3 => ?_⟩
    obtain ⟨p, vs, ep, g1, g2⟩ := (S3.rd ((o1.mono k2).mono k3) rx).dctK S3.fh
    rw [ea] at ep; cases ep
    refine ⟨_, by rw [(S3.rd (o2.mono k3) ry).key hk]; exact DGet.k g1, ?_⟩
    have l := g2.look kk
    rw [keyOf_keyD hk] at l
    refine q _ _ _ (k1.trans (k2.trans k3)) S3 ?_
    cases e1 : valV vs kk with
    | none =>
      cases e2 : lookD kvs k with
      | none => exact r3
      | some d => rw [e1, e2] at l; exact l.elim
    | some v =>
      cases e2 : lookD kvs k with
      | none => rw [e1, e2] at l; exact l.elim
      | some d => rw [e1, e2] at l; exact l)
/-! ### turned about -/
theorem be_revL {k : Nat} {p1 p2 p3 : Pos} {ds : List PyData} (ho : BO X b o env oo e1) (rx : rdO e1 oo = some (.list ds)) : BE X b (.Subscript o (.Slice none none (some (.UnaryOp .USub (.Constant (.int 1) k p1) p2)) p3) pos) env (.list ds.reverse) true e1 := fun F σ H S Q q =>
  we_of (pe_revL (pe_we o)) (ho F σ H S _ fun va F1 H1 k1 S1 o1 => by
    obtain ⟨p, vs, rfl, g1, g2⟩ := (S1.rd o1 rx).seqL S1.fh
    refine ⟨p, vs, rfl, g1, fun l hl => ?_⟩
    obtain ⟨j1, j2⟩ := S1.mkL hl g2.reverse
    exact q _ _ _ k1 j1 j2)
end
end Mi

set_option maxHeartbeats 2000000
/-! D9: the promise of a def (FnG: where no guard stands), calls by name. -/
namespace Mi
open PySem PySem.Spec PyProof.Rows L2

structure FnG (P : Program) (w : World) (K : PySem.W.Frag) (mg : Str → Option Value) (base : Heap) (k : Nat) (f : Addr) (fd : FuncData) (ps : List Str) (sp : Sp) : Prop where
  len : ∀ vs H Q E, sp vs H Q E → vs.length = ps.length
  run : ∀ (A : Around) (outer : List Env) (s : Shared) (H : Hp) (args : Args) (us : List Value) (vs : List V) (Q : VK) (E : XK), Room k A → A.guards = some [] → Env0 P w K mg base A outer s H → BindsTo s fd args (ps.zip us) → Vals vs us → sp vs H Q E →
    codeAny (model P w) A (.call (.ref f) args) (CR CX0 outer P w H s Q E) s
theorem FnG.mono {P : Program} {w : World} {K : PySem.W.Frag} {mg : Str → Option Value} {base : Heap} {j k : Nat} {f : Addr} {fd : FuncData} {ps : List Str} {sp : Sp} (F : FnG P w K mg base j f fd ps sp) (h : j ≤ k) :
    FnG P w K mg base k f fd ps sp := ⟨F.len, fun A outer s H args us vs Q E hr => F.run A outer s H args us vs Q E (hr.mono h)⟩
/-- a def that promises without a word of guards -/
theorem FnG.of {P : Program} {w : World} {K : PySem.W.Frag} {mg : Str → Option Value} {base : Heap} {k : Nat} {f : Addr} {fd : FuncData} {ps : List Str} {sp : Sp} (F : FnOk P w K mg base CX0 k f fd ps sp) : FnG P w K mg base k f fd ps sp :=
  ⟨F.len, fun A outer s H args us vs Q E hr _ => F.run A outer s H args us vs Q E hr⟩

section
variable {P : Program} {w : World} {K : PySem.W.Frag} {mg : Str → Option Value} {base : Heap}
/-- a def keeps its promise by its body -/
theorem fng_of {k : Nat} {x : Str} {st : Stmt} {f : Addr} {fd : FuncData} {N ps : List Str} {sp : Sp} (F : Fun K x x st f fd) (S : FnScope N ps (defScope st)) (len : ∀ vs H Q E, sp vs H Q E → vs.length = ps.length)
    (hbody : ∀ (cdv : Value) (A : Around) (outer : List Env) (s : Shared) (H : Hp) (vs : List V) (Q : VK) (E : XK), Room k (A.deeper (envOfC x (defScope st) s.heap.objs.size f cdv)) → A.guards = some [] → sp vs H Q E →
      ∃ t, PSs (cxOf CX0 P w K mg base N x (defScope st) f cdv A outer s H E) (defBody st) t ∧ t { nx := fun _ H' => Q .non H', rt := Q } (start N vs) H) :
    FnG P w K mg base (k + 1) f fd ps sp := by
  obtain ⟨⟨oc, od, kV, doc, pm, an, cdv, ct, osl, rfl, lk, hcd⟩, _⟩ := F
  refine ⟨len, fun A outer s H args us vs Q E hr hg e0 hb r hsp => ?_⟩
  have hl := len _ _ _ _ hsp
  have hkeep : ∀ b o, base.get? b = some o → s.heap.get? b = some o := fun b o e => (e0.bs b o e).1
  have KX : K.In s.heap := e0.mod.kin.keeps hkeep
  have hkind : ∀ y ∈ ps.zip us, (defScope st).names.lookup y.1 = some .local ∨ ((defScope st).names.lookup y.1 = some .cell ∧ ((cellsFrom (s.heap.objs.size + 1) (defScope st).names []).lookup y.1).isSome = true) := fun ⟨n, v⟩ hy =>
    (S.par n (List.of_mem_zip hy).1).imp id fun q => ⟨q, PySem.W.cellsFrom_some _ _ _ (.inl q)⟩
  refine codeAny_call_function hr.depth (KX _ _ lk) rfl S.co S.gen rfl (PySem.W.codeRec_of KX hcd) (hb _ _ _ _ ?_)
  refine wpAny_newFunctionEnv_cells S.kind hkind fun env he s1 xx => ?_
  subst he
  refine ⟨(e0.mod.nolimit.keeps hkeep).keeps xx.toInCall.keep, codeAny_func ?_⟩
  obtain ⟨t, ht, hq⟩ := hbody cdv A outer s H vs Q E (hr.deeper _) hg hsp
  have I : Inv (cxOf CX0 P w K mg base N x (defScope st) f cdv A outer s H E) [] (start N vs) H s1 := inv_start S hr.hd e0 hl r xx
  refine wpAny_mono (ht.run [] s1 (start N vs) H _ I hq) (fun fl s' hs => ?_) fun e s' hs => hs
  cases fl with
  | ret u => obtain ⟨v, σ', H', J, rv, q⟩ := hs; exact ⟨v, H', J.os, J.bare, J.base, J.hok, rv, q⟩
  | next => obtain ⟨σ', H', J, q⟩ := hs; exact ⟨.non, H', J.os, J.bare, J.base, J.hok, rfl, q⟩
  | brk => obtain ⟨_, _, _, q⟩ := hs; exact q.elim
  | cont => obtain ⟨_, _, _, q⟩ := hs; exact q.elim
end

section
variable {X : Cx} {k : Nat} {f : Addr} {fd : FuncData} {ps ks : List Str} {sp : Sp} {x : Str} {p pos : Pos} {e : Expr} {es : List Expr} {kws : List Keyword} {t tk : TA}
theorem run_g {pins : List (Addr × Obj)} {σ : L2.St} {H : Hp} {s : Shared} {Q : VK} {args : Args} {zs : List Value} {vs : List V} (F : FnG X.prog X.w X.K X.mg X.base k f fd ps sp) (hr : Room k X.A) (hg : X.A.guards = some [])
    (I : Inv X pins σ H s) (hb : zs.length = ps.length → BindsTo s fd args (ps.zip zs)) (r : Vals vs zs) (h : sp vs H Q E0) : wpAny (model X.prog X.w) X.A (call (.ref f) args.pos args.kw) (EP X pins σ Q) X.xe s := by
  refine wpAny_call (codeAny_mono (F.run X.A X.stack s H args zs vs Q E0 hr hg I.env0 (hb (by rw [← r.length]; exact F.len _ _ _ _ h)) r h) fun r s' hq => ?_)
  cases r with
  | error e => exact hq.elim
  | ok fl =>
    cases fl with
    | ret u => exact I.after hq
    | next => exact hq.elim
    | brk => exact hq.elim
    | cont => exact hq.elim
theorem pe_g (F : FnG X.prog X.w X.K X.mg X.base k f fd ps sp) (hr : Room k X.A) (hgd : X.A.guards = some []) (hg : Gl X x) (hm : X.mg x = some (.ref f)) (hk : PySem.W.keepIn X.K (.ref f) = true) (hb : Binds X.K fd ps [])
    (ha : PA X (e :: es) t) (hdb : (x == ("__debug__" : Str)) = false) (he : starEach (e :: es) X.env = (false, eval e X.env) :: starEach es X.env) (hpl : (backTo pos (starEach es X.env)).any (·.1) = false) :
    PE X (.Call (.Name x p) (e :: es) [] pos) (fun σ H Q => t σ H fun vs H1 => sp vs H1 Q E0) := by
  refine ⟨fun pins s σ H Q I h => ?_⟩
  refine wpAny_Call_Name_kw (ld_glob I hg hm ?_ hdb)
  refine PySem.W.callWith_K (h₀ := X.base) I.ok.mod.kin hk (thn (ha.run pos pins s σ H _ I h) fun us s1 ⟨vs, H1, I1, r, q⟩ => ⟨I1.kIn, ?_⟩) he hpl
  exact run_g (args := ⟨us, []⟩) F hr hgd I1 (fun hl => by have := hb s1 us I1.kIn (by rw [List.append_nil]; exact hl); rw [List.append_nil] at this; exact this) r q
theorem pe_g0 (F : FnG X.prog X.w X.K X.mg X.base k f fd ps sp) (hr : Room k X.A) (hgd : X.A.guards = some []) (hg : Gl X x) (hm : X.mg x = some (.ref f)) (hk : PySem.W.keepIn X.K (.ref f) = true) (hb : Binds X.K fd ps [])
    (hdb : (x == ("__debug__" : Str)) = false) : PE X (.Call (.Name x p) [] [] pos) (fun σ H Q => sp [] H Q E0) := by
  refine ⟨fun pins s σ H Q I h => ?_⟩
  refine wpAny_Call_Name_kw (ld_glob I hg hm ?_ hdb)
  exact PySem.W.callWith_K0 I.kIn hk (run_g (args := ⟨[], []⟩) (zs := []) F hr hgd I (fun hl => by have := hb s [] I.kIn (by rw [List.append_nil]; exact hl); rw [List.append_nil] at this; exact this) .nil h)
end
end Mi

set_option maxHeartbeats 2000000
/-! D10: what a def of the small language promises; the caller's side. -/
namespace Mi
open PySem PySem.Spec PyProof.Rows L2

def cut (H : Hp) (ps : List Addr) : Hp := fun a => if a ∈ ps then none else H a
theorem cut_of {H : Hp} {ps : List Addr} {a : Addr} (h : a ∉ ps) : cut H ps a = H a := if_neg h
theorem cut_in {H : Hp} {ps : List Addr} {a : Addr} (h : a ∈ ps) : cut H ps a = none := if_pos h
inductive ArgsOk (K : PySem.W.Frag) (F H : Hp) : List Pk → List V → List PyData → List Addr → Prop
  | nil : ArgsOk K F H [] [] [] []
  | v {v : V} {d : PyData} {io : List Pk} {vs : List V} {ds : List PyData} {ps : List Addr} : Rv K F v d → ArgsOk K F H io vs ds ps → ArgsOk K F H (.v :: io) (v :: vs) (d :: ds) ps
  | io {p : Addr} {ws : List V} {xs : List PyData} {io : List Pk} {vs : List V} {ds : List PyData} {ps : List Addr} : H p = some (.lst ws) → F p = none → RvAll K F ws xs → ArgsOk K F H io vs ds ps → ArgsOk K F H (.io :: io) (.ref p :: vs) (.list xs :: ds) (p :: ps)
  | sc {p : Addr} {ws : List V} {xs : List PyData} {io : List Pk} {vs : List V} {ds : List PyData} {ps : List Addr} : SqL K F p ws → RvAll K F ws xs → ArgsOk K F H io vs ds ps → ArgsOk K F H (.sc :: io) (.ref p :: vs) (.list xs :: ds) ps
theorem ArgsOk.len {K : PySem.W.Frag} {F H : Hp} {io : List Pk} {vs : List V} {ds : List PyData} {ps : List Addr} (h : ArgsOk K F H io vs ds ps) : vs.length = io.length := by
  induction h with
  | nil => rfl
  | v _ _ ih => rw [List.length_cons, List.length_cons, ih]
  | io _ _ _ _ ih => rw [List.length_cons, List.length_cons, ih]
  | sc _ _ _ ih => rw [List.length_cons, List.length_cons, ih]
inductive OutsOk (K : PySem.W.Frag) (F H : Hp) : List Addr → List (List PyData) → Prop
  | nil : OutsOk K F H [] []
  | cons {p : Addr} {ws : List V} {o : List PyData} {ps : List Addr} {os : List (List PyData)} : H p = some (.lst ws) → RvAll K F ws o → OutsOk K F H ps os → OutsOk K F H (p :: ps) (o :: os)
/-- a result: frozen, or new and nobody else's -/
def ResOk (K : PySem.W.Frag) (H F' H' : Hp) (v : V) : PyData × Bool → Prop
  | (d, false) => Rv K F' v d
  | (d, true) => match d with
    | .list ds => ∃ p vs, v = .ref p ∧ H p = none ∧ F' p = none ∧ H' p = some (.lst vs) ∧ RvAll K F' vs ds
    | .dict ds => ∃ p vs, v = .ref p ∧ H p = none ∧ F' p = none ∧ H' p = some (.dK vs) ∧ RvKV K F' vs ds
    | _ => Rv K F' v d
/-- what the def f promises -/
def spFn (K : PySem.W.Frag) (Φ : Fns) (io : List Pk) (f : Nat) : Sp := fun vs H Q _ =>
  ∃ F ds r outs ps, Φ f ds = some (r, outs) ∧ Same F H ∧ ArgsOk K F H io vs ds ps ∧ ps.Nodup ∧
    ∀ v F' H', Same F F' → Same F' H' → (∀ a o, H a = some o → a ∉ ps → H' a = some o) → (∀ a, F' a ≠ none → F a ≠ none ∨ H a = none) → OutsOk K F' H' ps outs → ResOk K H F' H' v r → Q v H'

def refAt (σ : L2.St) (i : Nat) : Addr := match σ[i]? with
  | some (some (.ref p)) => p
  | _ => 0
theorem refAt_of {σ : L2.St} {i : Nat} {p : Addr} (h : σ[i]? = some (some (.ref p))) : refAt σ i = p := by unfold refAt; rw [h]
theorem isOwnL_iff {env : En} {i : Nat} : isOwnL env i = true ↔ ∃ ds, env[i]? = some (.own ds) := by
  unfold isOwnL
  constructor
  · intro h
    split at h
    · exact ⟨_, by assumption⟩
    · cases h
  · rintro ⟨ds, h⟩; rw [h]
theorem isScr_iff {env : En} {i : Nat} : isScr env i = true ↔ ∃ ds, env[i]? = some (.scr ds) := by
  unfold isScr
  constructor
  · intro h
    split at h
    · exact ⟨_, by assumption⟩
    · cases h
  · rintro ⟨ds, h⟩; rw [h]
theorem setOuts_len : ∀ (is : List Nat) (os : List (List PyData)) (env : En), (setOuts is os env).length = env.length
  | [], _, _ => rfl
  | _ :: _, [], _ => rfl
  | i :: is, o :: os, env => by
    show (setOuts is os (env.set i (.own o))).length = _
    rw [setOuts_len is os, List.length_set]
theorem setOuts_out : ∀ (is : List Nat) (os : List (List PyData)) (env : En) {j : Nat}, j ∉ is → (setOuts is os env)[j]? = env[j]?
  | [], _, _, _, _ => rfl
  | _ :: _, [], _, _, _ => rfl
  | i :: is, o :: os, env, j, h => by
    show (setOuts is os (env.set i (.own o)))[j]? = _
    rw [setOuts_out is os _ fun z => h (List.mem_cons_of_mem _ z), List.getElem?_set_ne fun e => h (by rw [e]; exact List.mem_cons_self)]
theorem setOuts_in {K : PySem.W.Frag} {F H : Hp} {r : Nat → Addr} : ∀ {is : List Nat} {os : List (List PyData)} {env : En} {j : Nat} {s : Sl}, OutsOk K F H (is.map r) os → is.Nodup → j ∈ is → (setOuts is os env)[j]? = some s → ∃ ds ws, s = .own ds ∧ H (r j) = some (.lst ws) ∧ RvAll K F ws ds
  | [], _, _, _, _, _, _, h, _ => by cases h
  | i :: is, [], _, _, _, h, _, _, _ => by cases h
  | i :: is, o :: os, env, j, s, h, nd, hj, e => by
    cases h with
    | cons h1 h2 h3 =>
      rw [List.nodup_cons] at nd
      have e' : (setOuts is os (env.set i (.own o)))[j]? = some s := e
      rcases List.mem_cons.mp hj with rfl | hj
      · rw [setOuts_out is os _ nd.1] at e'
        by_cases hl : j < env.length
        · rw [List.getElem?_set_self hl] at e'; cases e'
          exact ⟨_, _, rfl, h1, h2⟩
        · rw [List.getElem?_eq_none (by rw [List.length_set]; omega)] at e'; cases e'
      · exact setOuts_in h3 nd.2 hj e'

section
variable {K : PySem.W.Frag} {b : Bs} {F F2 : Hp} {σ : L2.St} {H H2 : Hp} {env : En}
/-- behind a call that has changed the lists of the slots is -/
theorem Stt.after (S : Stt K b F σ H env) {is : List Nat} {outs : List (List PyData)} (hown : ∀ i ∈ is, isOwnL env i = true) (nd : is.Nodup) (hF : Same F F2) (hFH : Same F2 H2)
    (hH : ∀ a o, H a = some o → a ∉ is.map (refAt σ) → H2 a = some o) (hn : ∀ a, F2 a ≠ none → F a ≠ none ∨ H a = none) (ho : OutsOk K F2 H2 (is.map (refAt σ)) outs) :
    Stt K b F2 σ H2 (setOuts is outs env) := by
  have own : ∀ i ∈ is, ∃ ds p vs, env[i]? = some (.own ds) ∧ refAt σ i = p ∧ σ[i]? = some (some (.ref p)) ∧ H p = some (.lst vs) ∧ F p = none ∧ b.B p = none := fun i hi => by
    obtain ⟨ds, h⟩ := isOwnL_iff.mp (hown i hi)
    obtain ⟨p, vs, h1, h2, h3, h4, _⟩ := S.sl i _ h
    exact ⟨ds, p, vs, h, refAt_of h1, h1, h2, h3, h4⟩
  have notIn : ∀ a, b.B a ≠ none → a ∉ is.map (refAt σ) := fun a ha hm => by
    obtain ⟨i, hi, e⟩ := List.mem_map.mp hm
    obtain ⟨ds, p, vs, _, e2, _, _, _, h4⟩ := own i hi
    rw [e2] at e; subst e
    exact ha h4
  have fz : ∀ p, (H p).isSome = true → F p = none → F2 p = none := fun p h1 h2 => by
    cases e : F2 p with
    | none => rfl
    | some o =>
      rcases hn p (by rw [e]; simp) with h | h
      · exact absurd h2 h
      · rw [h] at h1; cases h1
  have back : ∀ j, ownAt (setOuts is outs env) j → ownAt env j := fun j ⟨s, h1, h2⟩ => by
    by_cases hj : j ∈ is
    · obtain ⟨ds, _, _, h, _⟩ := own j hj
      exact ⟨_, h, rfl⟩
    · rw [setOuts_out is outs env hj] at h1
      exact ⟨s, h1, h2⟩
  refine ⟨hFH, fun a o e => hH a o (S.bh a o e) (notIn a (by rw [e]; simp)), S.ff.trans hF, fun a h1 h2 => ?_, by rw [setOuts_len]; exact S.len, fun j s hs => ?_, fun i j p hi hj => S.sep i j p (back i hi) (back j hj), S.ios⟩
  · rcases hn a h2 with h | h
    · exact S.nw a h1 h
    · exfalso
      cases e : b.B a with
      | none => exact h1 e
      | some o => rw [S.bh a o e] at h; cases h
  · by_cases hj : j ∈ is
    · obtain ⟨ds, p, vs, h, e, h1, h2, h3, h4⟩ := own j hj
      obtain ⟨ds', ws, rfl, k1, k2⟩ := setOuts_in ho nd hj hs
      rw [e] at k1
      exact ⟨p, ws, h1, k1, fz p (by rw [h2]; rfl) h3, h4, k2⟩
    · rw [setOuts_out is outs env hj] at hs
      have h := S.sl j s hs
      have keep : ∀ p o, s.isOwn = true → σ[j]? = some (some (.ref p)) → H p = some o → H2 p = some o := fun p o so h1 h2 => hH p o h2 fun hm => by
        obtain ⟨i, hi, e⟩ := List.mem_map.mp hm
        obtain ⟨ds, q, vs, h', e2, k1, _⟩ := own i hi
        rw [e2] at e; subst e
        exact hj ((S.sep i j q ⟨_, h', rfl⟩ ⟨s, hs, so⟩ k1 h1) ▸ hi)
      cases s with
      | un => trivial
      | val d => obtain ⟨v, h1, h2⟩ := h; exact ⟨v, h1, h2.mono hF⟩
      | own ds => obtain ⟨p, vs, h1, h2, h3, h4, h5⟩ := h; exact ⟨p, vs, h1, keep p _ rfl h1 h2, fz p (by simp [h2]) h3, h4, h5.mono hF⟩
      | owd ds => obtain ⟨p, vs, h1, h2, h3, h4, h5⟩ := h; exact ⟨p, vs, h1, keep p _ rfl h1 h2, fz p (by simp [h2]) h3, h4, h5.mono hF⟩
      | owt ds => obtain ⟨p, vs, h1, h2, h3, h4, h5⟩ := h; exact ⟨p, vs, h1, keep p _ rfl h1 h2, fz p (by simp [h2]) h3, h4, h5.mono hF⟩
      | scr ds => obtain ⟨p, vs, h1, h2, h3⟩ := h; exact ⟨p, vs, h1, same_l hF h2, h3.mono hF⟩

/-- lent lists are frozen -/
theorem Stt.frzAt : ∀ (L : List Nat) {F : Hp} {env : En}, Stt K b F σ H env → ∃ F1, Same F F1 ∧ Stt K b F1 σ H (Mi.frzAt L env) ∧ (∀ a, F1 a ≠ none → F a ≠ none ∨ ∃ i ∈ L, ownAt env i ∧ σ[i]? = some (some (.ref a)))
  | [], F, env, S => ⟨F, Same.refl F, S, fun a h => .inl h⟩
  | i :: L, F, env, S => by
    have step : ∃ F1, Same F F1 ∧ Stt K b F1 σ H (env.set i (frz ((env[i]?).getD .un))) ∧ (∀ a, F1 a ≠ none → F a ≠ none ∨ (ownAt env i ∧ σ[i]? = some (some (.ref a)))) := by
      cases e : env[i]? with
      | none => exact ⟨F, Same.refl F, by rw [List.set_eq_of_length_le (List.getElem?_eq_none_iff.mp e)]; exact S, fun a h => .inl h⟩
      | some s =>
        have same : frz s = s → ∃ F1, Same F F1 ∧ Stt K b F1 σ H (env.set i (frz ((some s).getD .un))) ∧ (∀ a, F1 a ≠ none → F a ≠ none ∨ (ownAt env i ∧ σ[i]? = some (some (.ref a)))) := fun q => by
          have : env.set i (frz ((some s).getD .un)) = env := by
            show env.set i (frz s) = env
            obtain ⟨h1, h2⟩ := List.getElem?_eq_some_iff.mp e
            rw [q, ← h2, List.set_getElem_self]
          exact ⟨F, Same.refl F, by rw [this]; exact S, fun a h => .inl h⟩
        cases s with
        | un => exact same rfl
        | val d => exact same rfl
        | scr d => exact same rfl
        | own ds =>
          obtain ⟨p, vs, h1, h2, h3, h4, h5, S1⟩ := S.freezeL e
          refine ⟨_, Same.new h3, S1, fun a h => ?_⟩
          by_cases ha : a = p
          · subst ha; exact .inr ⟨⟨_, e, rfl⟩, h1⟩
          · rw [upd_ne ha] at h; exact .inl h
        | owd ds =>
          obtain ⟨p, vs, h1, h2, h3, h4, h5, S1⟩ := S.freezeD e
          refine ⟨_, Same.new h3, S1, fun a h => ?_⟩
          by_cases ha : a = p
          · subst ha; exact .inr ⟨⟨_, e, rfl⟩, h1⟩
          · rw [upd_ne ha] at h; exact .inl h
        | owt ds => exact ⟨F, Same.refl F, S.setEnv trivial (fun z => nomatch z), fun a h => .inl h⟩
    obtain ⟨F1, k1, S1, n1⟩ := step
    obtain ⟨F2, k2, S2, n2⟩ := Stt.frzAt L S1
    refine ⟨F2, k1.trans k2, S2, fun a h => ?_⟩
    rcases n2 a h with h | ⟨j, hj, h1, h2⟩
    · rcases n1 a h with h | ⟨h1, h2⟩
      · exact .inl h
      · exact .inr ⟨i, List.mem_cons_self, h1, h2⟩
    · refine .inr ⟨j, List.mem_cons_of_mem _ hj, ?_, h2⟩
      rcases ownAt_set h1 with ⟨rfl, q⟩ | ⟨_, q⟩
      · exfalso
        cases e : env[j]? with
        | none => rw [e] at q; cases q
        | some s => rw [e] at q; cases s <;> cases q
      · exact q
end
end Mi

set_option maxHeartbeats 2000000
/-! D11: a call of a def of the small language. -/
namespace Mi
open PySem PySem.Spec PyProof.Rows L2

theorem nodup_map {α β : Type} {f : α → β} : ∀ {l : List α}, (∀ a ∈ l, ∀ c ∈ l, f a = f c → a = c) → l.Nodup → (l.map f).Nodup
  | [], _, _ => List.nodup_nil
  | a :: l, h, n => by
    rw [List.nodup_cons] at n
    rw [List.map_cons, List.nodup_cons]
    refine ⟨fun hm => ?_, nodup_map (fun x hx y hy => h x (List.mem_cons_of_mem _ hx) y (List.mem_cons_of_mem _ hy)) n.2⟩
    obtain ⟨c, hc, e⟩ := List.mem_map.mp hm
    exact n.1 ((h a List.mem_cons_self c (List.mem_cons_of_mem _ hc) e.symm) ▸ hc)
theorem frz_frz (s : Sl) : frz (frz s) = frz s := by cases s <;> rfl
theorem frzAt_get : ∀ (L : List Nat) (env : En) (i : Nat), (Mi.frzAt L env)[i]? = if i ∈ L then (env[i]?).map frz else env[i]?
  | [], env, i => by simp [Mi.frzAt]
  | j :: L, env, i => by
    show (Mi.frzAt L (env.set j (frz ((env[j]?).getD .un))))[i]? = _
    rw [frzAt_get L]
    by_cases e : j = i
    · subst e
      have h : (env.set j (frz ((env[j]?).getD .un)))[j]? = (env[j]?).map frz := by
        by_cases hl : j < env.length
        · rw [List.getElem?_set_self hl, List.getElem?_eq_getElem hl]; rfl
        · rw [List.getElem?_eq_none (by rw [List.length_set]; omega), List.getElem?_eq_none (by omega)]; rfl
      rw [h, if_pos List.mem_cons_self]
      split
      · cases env[j]? with
        | none => rfl
        | some s => show some (frz (frz s)) = _; rw [frz_frz]; rfl
      · rfl
    · have hm : i ∈ j :: L ↔ i ∈ L := by simp [Ne.symm e]
      rw [List.getElem?_set_ne e]
      by_cases h : i ∈ L
      · rw [if_pos h, if_pos (hm.mpr h)]
      · rw [if_neg h, if_neg fun z => h (hm.mp z)]
theorem frz_notOwn (s : Sl) : (frz s).isOwn = false := by cases s <;> rfl
theorem ownAt_frzAt {L : List Nat} {env : En} {i : Nat} (h : ownAt (Mi.frzAt L env) i) : i ∉ L ∧ ownAt env i := by
  obtain ⟨s, h1, h2⟩ := h
  rw [frzAt_get] at h1
  by_cases hi : i ∈ L
  · rw [if_pos hi] at h1
    obtain ⟨t, _, rfl⟩ := Option.map_eq_some_iff.mp h1
    rw [frz_notOwn] at h2; cases h2
  · rw [if_neg hi] at h1
    exact ⟨hi, s, h1, h2⟩
theorem ownAt_setOuts {is : List Nat} {outs : List (List PyData)} {env : En} (hown : ∀ i ∈ is, isOwnL env i = true) {j : Nat} (h : ownAt (setOuts is outs env) j) : ownAt env j := by
  obtain ⟨s, h1, h2⟩ := h
  by_cases hj : j ∈ is
  · obtain ⟨ds, h⟩ := isOwnL_iff.mp (hown j hj)
    exact ⟨_, h, rfl⟩
  · rw [setOuts_out is outs env hj] at h1
    exact ⟨s, h1, h2⟩

section
variable {K : PySem.W.Frag} {b : Bs} {F F1 : Hp} {σ : L2.St} {H : Hp} {env : En} {L : List Nat}
theorem args_ok (S : Stt K b F σ H env) (S1 : Stt K b F1 σ H (Mi.frzAt L env)) (hF : Same F F1) :
    ∀ {io : List Pk} {os : List Op} {vs : List V} {ds : List PyData} {is : List Nat}, OpsOk K F σ vs os → rdSs env os = some ds → ioSlots io os = some is → (∀ i ∈ is, isOwnL env i = true ∧ i ∉ L) → (∀ i ∈ scrs io os, isScr env i = true) →
      (∀ i ∈ lent io os, i ∈ L ∧ isScr env i = false) → ArgsOk K F1 H io vs ds (is.map (refAt σ))
  | [], [], _, _, _, .nil, e1, e2, _, _, _ => by cases e1; cases e2; exact .nil
  | [], _ :: _, _, _, _, _, _, e2, _, _, _ => by cases e2
  | .io :: _, [], _, _, _, _, _, e2, _, _, _ => by cases e2
  | .sc :: _, [], _, _, _, _, _, e2, _, _, _ => by cases e2
  | .v :: _, [], _, _, _, _, _, e2, _, _, _ => by cases e2
  | .v :: io, o :: os, _, _, is, .cons (v := v) ho hs, e1, e2, h1, h2, h3 => by
    obtain ⟨d, hd, e1⟩ := Option.bind_eq_some_iff.mp (show (rdS env o).bind (fun d => (rdSs env os).map (d :: ·)) = _ from e1)
    obtain ⟨ds, hds, rfl⟩ := Option.map_eq_some_iff.mp e1
    have e2' : ioSlots io os = some is := e2
    have h2' : ∀ i ∈ scrs io os, isScr env i = true := fun i hi => h2 i (by cases o <;> exact hi)
    have h3' : ∀ i ∈ lent io os, i ∈ L ∧ isScr env i = false := fun i hi => h3 i (by
      cases o with
      | dt d => exact hi
      | sl j => exact List.mem_cons_of_mem _ hi)
    refine .v ?_ (args_ok S S1 hF hs hds e2' h1 h2' h3')
    cases o with
    | dt d' => cases hd; exact Rv.mono hF ho
    | sl i =>
      obtain ⟨hi, hn⟩ := h3 i List.mem_cons_self
      have ho' : σ[i]? = some (some v) := ho
      have hd' : (env[i]?).bind slS = some d := hd
      cases e : env[i]? with
      | none => rw [e] at hd'; cases hd'
      | some s =>
        rw [e] at hd'
        have q := S1.sl i (frz s) (by rw [frzAt_get, if_pos hi, e]; rfl)
        have fin : ∀ dd, frz s = .val dd → dd = d → Rv K F1 v d := fun dd q1 q2 => by
          subst q2
          rw [q1] at q
          obtain ⟨v', k1, k2⟩ := q
          rw [ho'] at k1; cases k1
          exact k2
        cases s with
        | un => cases hd'
        | val dd => cases hd'; exact fin _ rfl rfl
        | own dd => cases hd'; exact fin _ rfl rfl
        | owd dd => cases hd'; exact fin _ rfl rfl
        | owt dd => cases hd'
        | scr dd => unfold isScr at hn; rw [e] at hn; cases hn
  | .io :: io, .dt d :: os, _, _, _, _, _, e2, _, _, _ => by cases e2
  | .io :: io, .sl i :: os, _, _, is, .cons (v := v) ho hs, e1, e2, h1, h2, h3 => by
    obtain ⟨is, e2', rfl⟩ := Option.map_eq_some_iff.mp (show (ioSlots io os).map (i :: ·) = _ from e2)
    obtain ⟨d, hd, e1⟩ := Option.bind_eq_some_iff.mp (show (rdS env (.sl i)).bind (fun d => (rdSs env os).map (d :: ·)) = _ from e1)
    obtain ⟨ds, hds, rfl⟩ := Option.map_eq_some_iff.mp e1
    obtain ⟨ho1, hiL⟩ := h1 i List.mem_cons_self
    obtain ⟨xs, e⟩ := isOwnL_iff.mp ho1
    have hd' : (env[i]?).bind slS = some d := hd
    rw [e] at hd'; cases hd'
    obtain ⟨p, ws, k1, k2, k3, k4, k5⟩ := S.sl i _ e
    obtain ⟨p', ws', j1, j2, j3, _⟩ := S1.sl i (.own xs) (by rw [frzAt_get, if_neg hiL, e])
    rw [k1] at j1; cases j1
    have ho' : σ[i]? = some (some v) := ho
    rw [k1] at ho'; cases ho'
    rw [List.map_cons, refAt_of k1]
    exact .io k2 j3 (k5.mono hF) (args_ok S S1 hF hs hds e2' (fun j hj => h1 j (List.mem_cons_of_mem _ hj)) h2 h3)
  | .sc :: io, .dt d :: os, _, _, _, _, _, e2, _, _, _ => by cases e2
  | .sc :: io, .sl i :: os, _, _, is, .cons (v := v) ho hs, e1, e2, h1, h2, h3 => by
    obtain ⟨d, hd, e1⟩ := Option.bind_eq_some_iff.mp (show (rdS env (.sl i)).bind (fun d => (rdSs env os).map (d :: ·)) = _ from e1)
    obtain ⟨ds, hds, rfl⟩ := Option.map_eq_some_iff.mp e1
    obtain ⟨xs, e⟩ := isScr_iff.mp (h2 i List.mem_cons_self)
    have hd' : (env[i]?).bind slS = some d := hd
    rw [e] at hd'; cases hd'
    obtain ⟨p, ws, k1, k2, k3⟩ := S.sl i _ e
    have ho' : σ[i]? = some (some v) := ho
    rw [k1] at ho'; cases ho'
    exact .sc (same_l hF k2) (k3.mono hF) (args_ok S S1 hF hs hds e2 h1 (fun j hj => h2 j (List.mem_cons_of_mem _ hj)) h3)

theorem ResOk.rz {v : V} {F' H' : Hp} {env' : En} {d : PyData} {fr : Bool} (S : Stt K b F σ H env) (hno : ∀ p, H p = none → ¬ OwnP env' σ p) (h : ResOk K H F' H' v (d, fr)) : Rz K b F' σ H' env' v d fr := by
  cases fr with
  | false => exact h
  | true =>
    cases d with
    | list ds => obtain ⟨p, vs, e, h1, h2, h3, h4⟩ := h; exact ⟨p, vs, e, h2, S.bh.free h1, hno p h1, h3, h4⟩
    | dict ds => obtain ⟨p, vs, e, h1, h2, h3, h4⟩ := h; exact ⟨p, vs, e, h2, S.bh.free h1, hno p h1, h3, h4⟩
    | none => exact h
    | bool x => exact h
    | int x => exact h
    | str x => exact h
    | tuple x => exact h

theorem OutsOk.noMut {F F2 H : Hp} (e : TupsOf F F2) {ps : List Addr} {outs : List (List PyData)} (h : OutsOk K F H ps outs) (n : outs.all noMutAll = true) : OutsOk K F2 H ps outs := by
  induction h with
  | nil => exact .nil
  | cons h1 h2 _ ih =>
    rw [List.all_cons, Bool.and_eq_true] at n
    exact .cons h1 (RvAll.noMut e n.1 h2) (ih n.2)
theorem ResOk.noMut {F F2 H H' : Hp} (e : TupsOf F F2) (hle : ∀ p, F p = none → F2 p = none) {v : V} {r : PyData × Bool} (h : ResOk K H F H' v r) (n : noMutR r = true) : ResOk K H F2 H' v r := by
  obtain ⟨d, fr⟩ := r
  unfold noMutR at n
  cases fr with
  | false =>
    rw [Bool.false_and, Bool.or_false] at n
    exact Rv.noMut e n h
  | true =>
    cases d with
    | list ds =>
      have n' : noMutAll ds = true := by
        rcases Bool.or_eq_true_iff.mp n with n | n
        · simp [Mi.noMut] at n
        · simpa using n
      obtain ⟨p, vs, e1, h1, h2, h3, h4⟩ := h
      exact ⟨p, vs, e1, h1, hle p h2, h3, RvAll.noMut e n' h4⟩
    | dict ds => simp [Mi.noMut] at n
    | none => exact Rv.noMut e rfl h
    | bool x => exact Rv.noMut e rfl h
    | int x => exact Rv.noMut e rfl h
    | str x => exact Rv.noMut e rfl h
    | tuple x => exact Rv.noMut e (by simpa using n) h

open Classical in
/-- the caller's side: what a call is wanted for -/
theorem call_ok {Φ : Fns} {io : Nat → List Pk} {f : Nat} {os : List Op} {vs : List V} {d : PyData} {fr : Bool} {env' : En} (S : Stt K b F σ H env) (ho : OpsOk K F σ vs os) (hc : callM Φ io f os env = some ((d, fr), env')) {Q : VK} {E : XK}
    (q : ∀ v F' H', Same F F' → Stt K b F' σ H' env' → Rz K b F' σ H' env' v d fr → Q v H') : spFn K Φ (io f) f vs H Q E := by
  unfold callM at hc
  obtain ⟨ds, hds, hc⟩ := Option.bind_eq_some_iff.mp hc
  obtain ⟨is, his, hc⟩ := Option.bind_eq_some_iff.mp hc
  split at hc
  · rename_i cond
    obtain ⟨c1, c2, c3, c4, c5⟩ := cond
    obtain ⟨⟨⟨d', fr'⟩, outs⟩, hr, hc⟩ := Option.bind_eq_some_iff.mp hc
    split at hc
    · rename_i hlen
      cases hc
      generalize hL : lent (io f) os = L at *
      have own : ∀ i ∈ is, isOwnL env i = true := fun i hi => List.all_eq_true.mp c1 i hi
      obtain ⟨F1, k1, S1, n1⟩ := S.frzAt L
      have nodup : (is.map (refAt σ)).Nodup := by
        refine nodup_map (fun i hi j hj e => ?_) c4
        obtain ⟨xs, e1⟩ := isOwnL_iff.mp (own i hi)
        obtain ⟨ys, e2⟩ := isOwnL_iff.mp (own j hj)
        obtain ⟨p, _, h1, _⟩ := S.sl i _ e1
        obtain ⟨p', _, h2, _⟩ := S.sl j _ e2
        rw [refAt_of h1, refAt_of h2] at e
        subst e
        exact S.sep i j p ⟨_, e1, rfl⟩ ⟨_, e2, rfl⟩ h1 h2
      have args := args_ok S S1 k1 ho hds his (fun i hi => ⟨own i hi, fun hl => c5 i hi hl⟩) (fun i hi => List.all_eq_true.mp c2 i hi)
        (fun i hi => ⟨by rw [← hL]; exact hi, by
          have := List.all_eq_true.mp c3 i (by rw [← hL]; exact hi)
          simpa using this⟩)
      refine ⟨F1, ds, (d, fr), outs, is.map (refAt σ), hr, S1.fh, args, nodup, fun v F' H' e1 e2 e3 e4 e5 e6 => ?_⟩
      have own1 : ∀ i ∈ is, isOwnL (Mi.frzAt L env) i = true := fun i hi => by
        obtain ⟨xs, e⟩ := isOwnL_iff.mp (own i hi)
        exact isOwnL_iff.mpr ⟨xs, by rw [frzAt_get, if_neg (c5 i hi), e]⟩
      by_cases hm : (noMutR (d, fr) && outs.all noMutAll) = true
      · rw [if_pos hm] at q
        rw [Bool.and_eq_true] at hm
        -- what was lent comes back
        let Lp : Addr → Prop := fun a => ∃ i ∈ L, ownAt env i ∧ σ[i]? = some (some (.ref a))
        let F2 : Hp := fun a => if Lp a then none else F' a
        have lp : ∀ a, Lp a → F a = none ∧ ∃ o, H' a = some o ∧ (∀ xs, o ≠ .tup xs) ∧ ∀ o' xs, o ≠ .frz o' (.tup xs) := fun a ⟨i, hi, ⟨s, e, so⟩, hr⟩ => by
          have ni : a ∉ is.map (refAt σ) := fun hm => by
            obtain ⟨j, hj, e'⟩ := List.mem_map.mp hm
            obtain ⟨xs, e1⟩ := isOwnL_iff.mp (own j hj)
            obtain ⟨p, _, h1, _⟩ := S.sl j _ e1
            rw [refAt_of h1] at e'
            subst e'
            exact c5 j hj ((S.sep i j p ⟨s, e, so⟩ ⟨_, e1, rfl⟩ hr h1) ▸ hi)
          cases s with
          | own ds => obtain ⟨p, vs, h1, h2, h3, _⟩ := S.sl i _ e; rw [hr] at h1; cases h1; exact ⟨h3, _, e3 _ _ h2 ni, (fun _ z => by cases z), fun _ _ z => by cases z⟩
          | owd ds => obtain ⟨p, vs, h1, h2, h3, _⟩ := S.sl i _ e; rw [hr] at h1; cases h1; exact ⟨h3, _, e3 _ _ h2 ni, (fun _ z => by cases z), fun _ _ z => by cases z⟩
          | owt ds => obtain ⟨p, vs, h1, h2, h3, _⟩ := S.sl i _ e; rw [hr] at h1; cases h1; exact ⟨h3, _, e3 _ _ h2 ni, (fun _ z => by cases z), fun _ _ z => by cases z⟩
          | un => cases so
          | val d => cases so
          | scr d => cases so
        have hF2 : Same F F2 := fun a o e => by
          have : ¬ Lp a := fun h => by have := (lp a h).1; rw [e] at this; cases this
          show (if Lp a then none else F' a) = some o
          rw [if_neg this]; exact e1 a o (k1 a o e)
        have hF2H : Same F2 H' := fun a o e => by
          have e : (if Lp a then none else F' a) = some o := e
          split at e
          · cases e
          · exact e2 a o e
        have hle : ∀ p, F' p = none → F2 p = none := fun p e => by
          show (if Lp p then none else F' p) = none
          split
          · rfl
          · exact e
        have tu : TupsOf F' F2 := fun a => ⟨fun xs e => by
            show (if Lp a then none else F' a) = _
            rw [if_neg fun h => ?_]
            · exact e
            · obtain ⟨_, o, z, n1, _⟩ := lp a h
              rw [e2 a _ e] at z; cases z
              exact n1 _ rfl, fun o xs e => by
            show (if Lp a then none else F' a) = _
            rw [if_neg fun h => ?_]
            · exact e
            · obtain ⟨_, o, z, _, n2⟩ := lp a h
              rw [e2 a _ e] at z; cases z
              exact n2 _ _ rfl⟩
        have St := S.after (outs := outs) own c4 hF2 hF2H e3 (fun a h => by
          have h : (if Lp a then none else F' a) ≠ none := h
          by_cases hl : Lp a
          · rw [if_pos hl] at h; exact absurd rfl h
          · rw [if_neg hl] at h
            rcases e4 a h with h | h
            · rcases n1 a h with h | h
              · exact .inl h
              · exact absurd h hl
            · exact .inr h) (e5.noMut tu hm.2)
        exact q v F2 H' hF2 St (ResOk.rz S (fun p hp ho => by
          obtain ⟨i, h1, h2⟩ := ho
          have := (S.own_ref ⟨i, ownAt_setOuts own h1, h2⟩).1
          rw [hp] at this; cases this) (e6.noMut tu hle hm.1))
      · rw [if_neg hm] at q
        have St := S1.after (outs := outs) own1 c4 e1 e2 e3 e4 e5
        exact q v F' H' (k1.trans e1) St (ResOk.rz S (fun p hp ho => by
          obtain ⟨i, h1, h2⟩ := ho
          have := (S1.own_ref ⟨i, ownAt_setOuts own1 h1, h2⟩).1
          rw [hp] at this; cases this) e6)
    · cases hc
  · cases hc
end
end Mi

set_option maxHeartbeats 2000000
/-! D12: calls as expressions; what a loop walks. -/
namespace Mi
open PySem PySem.Spec PyProof.Rows L2

/-! ### keywords -/
def WK (X : Cx) (kws : List Keyword) : TA := fun σ H Q => ∀ (pos : Pos) (pins : List (Addr × Obj)) (s : Shared), Inv X pins σ H s → wpAny (model X.prog X.w) X.A (evalAll ((backToKw pos (keywordEach kws X.env)).map (·.2))) (AP X pins σ Q) X.xe s
theorem pk_wk {X : Cx} (kws : List Keyword) : PK X kws (WK X kws) := ⟨fun pos pins s _ _ _ I h => h pos pins s I⟩
theorem wk_of {X : Cx} {kws : List Keyword} {t : TA} (h : PK X kws t) {σ : L2.St} {H : Hp} {Q : List V → Hp → Prop} (q : t σ H Q) : WK X kws σ H Q := fun pos pins s I => h.run pos pins s σ H Q I q
def BKO (X : Cx) (b : Bs) (kws : List Keyword) (env : En) (os : List Op) (env' : En) : Prop :=
  ∀ F σ H, Stt X.K b F σ H env → ∀ Q : List V → Hp → Prop, (∀ vs F' H', Same F F' → Stt X.K b F' σ H' env' → OpsOk X.K F' σ vs os → Q vs H') → WK X kws σ H Q
section
variable {X : Cx} {b : Bs} {env e1 e2 : En} {o : Op} {os : List Op} {e : Expr} {kws : List Keyword} {n : Str} {p : Pos}
theorem bko_nil : BKO X b [] env [] env := fun F σ H S Q q => wk_of pk_nil (q [] F H (Same.refl F) S .nil)
theorem bko_cons (h : BO X b e env o e1) (r : BKO X b kws e1 os e2) : BKO X b (⟨some n, e, p⟩ :: kws) env (o :: os) e2 := fun F σ H S Q q =>
  wk_of (pk_cons (pe_we e) (pk_wk kws)) (h F σ H S _ fun v F1 H1 k1 S1 r1 => r F1 σ H1 S1 _ fun vs F2 H2 k2 S2 r2 => q _ F2 H2 (k1.trans k2) S2 (.cons (r1.mono k2) r2))
end

/-! ### arguments put in the parameters' order -/
def permL {α : Type} (kw : List Nat) (xs : List α) : List α := kw.filterMap (xs[·]?)
theorem OpsOk.append {K : PySem.W.Frag} {F : Hp} {σ : L2.St} {vs ws : List V} {os ps : List Op} (h : OpsOk K F σ vs os) (r : OpsOk K F σ ws ps) : OpsOk K F σ (vs ++ ws) (os ++ ps) := by
  induction h with
  | nil => exact r
  | cons h _ ih => exact .cons h ih
theorem OpsOk.get {K : PySem.W.Frag} {F : Hp} {σ : L2.St} {vs : List V} {os : List Op} (h : OpsOk K F σ vs os) (i : Nat) : (∃ v o, vs[i]? = some v ∧ os[i]? = some o ∧ OpOk K F σ v o) ∨ (vs[i]? = none ∧ os[i]? = none) := by
  induction h generalizing i with
  | nil => exact .inr ⟨by simp, by simp⟩
  | cons h _ ih =>
    cases i with
    | zero => exact .inl ⟨_, _, rfl, rfl, h⟩
    | succ i =>
      rcases ih i with ⟨v, o, h1, h2, h3⟩ | ⟨h1, h2⟩
      · exact .inl ⟨v, o, by simpa using h1, by simpa using h2, h3⟩
      · exact .inr ⟨by simpa using h1, by simpa using h2⟩
theorem OpsOk.perm {K : PySem.W.Frag} {F : Hp} {σ : L2.St} {vs : List V} {os : List Op} (h : OpsOk K F σ vs os) : ∀ (kw : List Nat), OpsOk K F σ (permL kw vs) (permL kw os)
  | [] => .nil
  | j :: kw => by
    unfold permL
    rcases h.get j with ⟨v, o, h1, h2, h3⟩ | ⟨h1, h2⟩
    · rw [List.filterMap_cons_some h1, List.filterMap_cons_some h2]
      exact .cons h3 (h.perm kw)
    · rw [List.filterMap_cons_none h1, List.filterMap_cons_none h2]
      exact h.perm kw
theorem vals_get {vs : List V} {us : List Value} (h : Vals vs us) (i : Nat) : (∃ v u, vs[i]? = some v ∧ us[i]? = some u ∧ RelV v u) ∨ (vs[i]? = none ∧ us[i]? = none) := by
  induction h generalizing i with
  | nil => exact .inr ⟨by simp, by simp⟩
  | cons h _ ih =>
    cases i with
    | zero => exact .inl ⟨_, _, rfl, rfl, h⟩
    | succ i =>
      rcases ih i with ⟨v, o, h1, h2, h3⟩ | ⟨h1, h2⟩
      · exact .inl ⟨v, o, by simpa using h1, by simpa using h2, h3⟩
      · exact .inr ⟨by simpa using h1, by simpa using h2⟩
theorem vals_perm {vs : List V} {us : List Value} (h : Vals vs us) : ∀ (kw : List Nat), Vals (permL kw vs) (permL kw us)
  | [] => .nil
  | j :: kw => by
    unfold permL
    rcases vals_get h j with ⟨v, o, h1, h2, h3⟩ | ⟨h1, h2⟩
    · rw [List.filterMap_cons_some h1, List.filterMap_cons_some h2]
      exact .cons h3 (vals_perm h kw)
    · rw [List.filterMap_cons_none h1, List.filterMap_cons_none h2]
      exact vals_perm h kw
theorem mapM_perm {α : Type} {xs : List α} : ∀ {kw : List Nat} {ys : List α}, kw.mapM (fun j => xs[j]?) = some ys → ys = permL kw xs
  | [], ys, h => by
    rw [List.mapM_nil] at h; cases h; rfl
  | j :: kw, ys, h => by
    rw [List.mapM_cons] at h
    obtain ⟨y, h1, h⟩ := Option.bind_eq_some_iff.mp h
    obtain ⟨zs, h2, h⟩ := Option.bind_eq_some_iff.mp h
    cases h
    unfold permL
    rw [List.filterMap_cons_some h1, mapM_perm h2]
    rfl

/-! ### calls -/
section
variable {X : Cx} {b : Bs} {k n : Nat} {f : Addr} {fd : FuncData} {ps ks : List Str} {Φ : Fns} {io : Nat → List Pk} {x : Str} {p pos : Pos} {e : Expr} {es : List Expr} {kws : List Keyword} {env e1 e2 env' : En} {os os2 os' : List Op} {d : PyData} {fr : Bool}
theorem be_call (F : FnG X.prog X.w X.K X.mg X.base k f fd ps (spFn X.K Φ (io n) n)) (hr : Room k X.A) (hgd : X.A.guards = some []) (hg : Gl X x) (hm : X.mg x = some (.ref f)) (hk : PySem.W.keepIn X.K (.ref f) = true) (hb : Binds X.K fd ps [])
    (ha : BAO X b (e :: es) env os e1) (hc : callM Φ io n os e1 = some ((d, fr), env')) (hdb : (x == ("__debug__" : Str)) = false) (he : starEach (e :: es) X.env = (false, eval e X.env) :: starEach es X.env) (hpl : (backTo pos (starEach es X.env)).any (·.1) = false) :
    BE X b (.Call (.Name x p) (e :: es) [] pos) env d fr env' := fun Fz σ H S Q q =>
  we_of (pe_g F hr hgd hg hm hk hb (pa_wa (e :: es)) hdb he hpl) (ha Fz σ H S _ fun vs F1 H1 k1 S1 r1 => call_ok S1 r1 hc fun v F2 H2 k2 S2 rz => q v F2 H2 (k1.trans k2) S2 rz)
theorem be_call0 (F : FnG X.prog X.w X.K X.mg X.base k f fd ps (spFn X.K Φ (io n) n)) (hr : Room k X.A) (hgd : X.A.guards = some []) (hg : Gl X x) (hm : X.mg x = some (.ref f)) (hk : PySem.W.keepIn X.K (.ref f) = true) (hb : Binds X.K fd ps [])
    (hc : callM Φ io n [] env = some ((d, fr), env')) (hdb : (x == ("__debug__" : Str)) = false) : BE X b (.Call (.Name x p) [] [] pos) env d fr env' := fun Fz σ H S Q q =>
  we_of (pe_g0 F hr hgd hg hm hk hb hdb) (call_ok S .nil hc fun v F2 H2 k2 S2 rz => q v F2 H2 k2 S2 rz)

/-- keywords: how the call binds -/
def BindsK (K : PySem.W.Frag) (fd : FuncData) (ps ks : List Str) (kw : List Nat) : Prop :=
  ∀ (s : Shared) (us ws : List Value), K.In s.heap → ws.length = ks.length → us.length + ws.length = ps.length → BindsTo s fd ⟨us, ks.zip ws⟩ (ps.zip (permL kw (us ++ ws)))
theorem opsOk_len {K : PySem.W.Frag} {F : Hp} {σ : L2.St} {vs : List V} {os : List Op} (h : OpsOk K F σ vs os) : vs.length = os.length := by
  induction h with
  | nil => rfl
  | cons _ _ ih => rw [List.length_cons, List.length_cons, ih]
theorem mapM_len {α : Type} : ∀ {kw : List Nat} {xs ys : List α}, kw.mapM (fun j => xs[j]?) = some ys → ys.length = kw.length
  | [], xs, ys, h => by rw [List.mapM_nil] at h; cases h; rfl
  | j :: kw, xs, ys, h => by
    rw [List.mapM_cons] at h
    obtain ⟨y, h1, h⟩ := Option.bind_eq_some_iff.mp h
    obtain ⟨zs, h2, h⟩ := Option.bind_eq_some_iff.mp h
    cases h
    rw [List.length_cons, List.length_cons, mapM_len h2]
theorem run_gk {pins : List (Addr × Obj)} {σ : L2.St} {H : Hp} {s : Shared} {us ws : List Value} {vs zs : List V} {Q : VK} {kw : List Nat} (F : FnG X.prog X.w X.K X.mg X.base k f fd ps (spFn X.K Φ (io n) n)) (hr : Room k X.A) (hgd : X.A.guards = some []) (hb : BindsK X.K fd ps ks kw)
    (I : Inv X pins σ H s) (r : Vals vs us) (rz : Vals zs ws) (hz : zs.length = ks.length) (hlen : (permL kw (vs ++ zs)).length = vs.length + zs.length) (sp : spFn X.K Φ (io n) n (permL kw (vs ++ zs)) H Q E0) :
    wpAny (model X.prog X.w) X.A (call (.ref f) us (ks.zip ws)) (EP X pins σ Q) X.xe s := by
  have rr : Vals (permL kw (vs ++ zs)) (permL kw (us ++ ws)) := vals_perm (r.append rz) kw
  refine run_g (args := ⟨us, ks.zip ws⟩) F hr hgd I (fun hl => hb s us ws I.kIn (by rw [← rz.length]; exact hz) ?_) rr sp
  rw [← rr.length, hlen, r.length, rz.length] at hl
  exact hl
theorem kw_fin {K : PySem.W.Frag} {Fz F1 F2 H2 : Hp} {σ : L2.St} {vs zs : List V} {kw : List Nat} {Q : VK} (hl : kw.length = os.length + os2.length) (hl2 : os2.length = ks.length) (hpm : kw.mapM (fun j => (os ++ os2)[j]?) = some os') (hc : callM Φ io n os' e2 = some ((d, fr), env'))
    (q : ∀ v F' H', Same Fz F' → Stt K b F' σ H' env' → Rz K b F' σ H' env' v d fr → Q v H') (k1 : Same Fz F1) (k2 : Same F1 F2) (r1 : OpsOk K F1 σ vs os) (S2 : Stt K b F2 σ H2 e2) (r2 : OpsOk K F2 σ zs os2) :
    zs.length = ks.length ∧ (permL kw (vs ++ zs)).length = vs.length + zs.length ∧ spFn K Φ (io n) n (permL kw (vs ++ zs)) H2 Q E0 := by
  have ro := ((r1.mono k2).append r2).perm kw
  rw [← mapM_perm hpm] at ro
  exact ⟨by rw [opsOk_len r2, hl2], by rw [opsOk_len ro, mapM_len hpm, hl, opsOk_len r1, opsOk_len r2], call_ok S2 ro hc fun v F3 H3 k3 S3 rz => q v F3 H3 (k1.trans (k2.trans k3)) S3 rz⟩
theorem be_callK (F : FnG X.prog X.w X.K X.mg X.base k f fd ps (spFn X.K Φ (io n) n)) (hr : Room k X.A) (hgd : X.A.guards = some []) (hg : Gl X x) (hm : X.mg x = some (.ref f)) (hk : PySem.W.keepIn X.K (.ref f) = true)
    {kw : List Nat} (hb : BindsK X.K fd ps ks kw) (ha : BAO X b (e :: es) env os e1) (hk2 : BKO X b kws e1 os2 e2) (hl : kw.length = os.length + os2.length) (hl2 : os2.length = ks.length) (hpm : kw.mapM (fun j => (os ++ os2)[j]?) = some os') (hc : callM Φ io n os' e2 = some ((d, fr), env')) (hdb : (x == ("__debug__" : Str)) = false)
    (hall : (backToKw pos (keywordEach kws X.env)).all (·.1.isSome) = true) (hks : (backToKw pos (keywordEach kws X.env)).filterMap (·.1) = ks)
    (he : starEach (e :: es) X.env = (false, eval e X.env) :: starEach es X.env) (hpl : ((backTo pos (starEach (e :: es) X.env)).any (·.1) || (backToKw pos (keywordEach kws X.env)).any (·.1.isNone)) = false) :
    BE X b (.Call (.Name x p) (e :: es) kws pos) env d fr env' := by
  intro Fz σ H S Q q pins s I
  refine wpAny_Call_Name_kw (ld_glob I hg hm ?_ hdb)
  refine PySem.W.callWith_KW (h₀ := X.base) I.ok.mod.kin hk hall (thn ((pa_wa (e :: es)).run pos pins s σ H _ I (ha Fz σ H S (fun vs H1 => WK X kws σ H1 fun zs H2 => zs.length = ks.length ∧ (permL kw (vs ++ zs)).length = vs.length + zs.length ∧ spFn X.K Φ (io n) n (permL kw (vs ++ zs)) H2 Q E0)
    fun vs F1 H1 k1 S1 r1 => hk2 F1 σ H1 S1 _ fun zs F2 H2 k2 S2 r2 => kw_fin hl hl2 hpm hc q k1 k2 r1 S2 r2)) fun us s1 ⟨vs, H1, I1, r, q1⟩ => ?_) hpl he
  refine thn ((pk_wk kws).run pos pins s1 σ H1 _ I1 q1) fun ws s2 ⟨zs, H2, I2, rz, q2, q3, q4⟩ => ⟨I2.kIn, ?_⟩
  rw [hks]
  exact run_gk F hr hgd hb I2 r rz q2 q3 q4
theorem be_callK0 (F : FnG X.prog X.w X.K X.mg X.base k f fd ps (spFn X.K Φ (io n) n)) (hr : Room k X.A) (hgd : X.A.guards = some []) (hg : Gl X x) (hm : X.mg x = some (.ref f)) (hk : PySem.W.keepIn X.K (.ref f) = true)
    {kw : List Nat} (hb : BindsK X.K fd ps ks kw) (hk2 : BKO X b kws env os2 e2) (hl : kw.length = os2.length) (hl2 : os2.length = ks.length) (hpm : kw.mapM (fun j => os2[j]?) = some os') (hc : callM Φ io n os' e2 = some ((d, fr), env')) (hdb : (x == ("__debug__" : Str)) = false)
    (hall : (backToKw pos (keywordEach kws X.env)).all (·.1.isSome) = true) (hks : (backToKw pos (keywordEach kws X.env)).filterMap (·.1) = ks)
    (hpl : ((backTo pos (starEach [] X.env)).any (·.1) || (backToKw pos (keywordEach kws X.env)).any (·.1.isNone)) = false) :
    BE X b (.Call (.Name x p) [] kws pos) env d fr env' := by
  intro Fz σ H S Q q pins s I
  refine wpAny_Call_Name_kw (ld_glob I hg hm ?_ hdb)
  refine PySem.W.callWith_KW0 (h₀ := X.base) I.ok.mod.kin hk hall (thn ((pk_wk kws).run pos pins s σ H _ I (hk2 Fz σ H S (fun zs H2 => zs.length = ks.length ∧ (permL kw ([] ++ zs)).length = ([] : List V).length + zs.length ∧ spFn X.K Φ (io n) n (permL kw ([] ++ zs)) H2 Q E0)
    fun zs F2 H2 k2 S2 r2 => kw_fin (os := []) (by rw [hl]; simp) hl2 hpm hc q (Same.refl _) k2 .nil S2 r2)) fun ws s2 ⟨zs, H2, I2, rz, q2, q3, q4⟩ => ⟨I2.kIn, ?_⟩) hpl
  rw [hks]
  exact run_gk (us := []) (vs := []) F hr hgd hb I2 .nil rz q2 q3 q4

/-! f of a new list that f may change -/
theorem Stt.afterTmp {K : PySem.W.Frag} {F F2 H H2 : Hp} {σ : L2.St} (S : Stt K b F σ H env) {p : Addr} (hp : b.B p = none) (ho : ¬ OwnP env σ p) (hF : Same F F2) (hFH : Same F2 H2)
    (hH : ∀ a o, H a = some o → a ∉ [p] → H2 a = some o) (hn : ∀ a, F2 a ≠ none → F a ≠ none ∨ H a = none) : Stt K b F2 σ H2 env := by
  have fz : ∀ p, (H p).isSome = true → F p = none → F2 p = none := fun p h1 h2 => by
    cases e : F2 p with
    | none => rfl
    | some o =>
      rcases hn p (by rw [e]; simp) with h | h
      · exact absurd h2 h
      · rw [h] at h1; cases h1
  refine ⟨hFH, fun a o e => hH a o (S.bh a o e) fun z => ?_, S.ff.trans hF, fun a h1 h2 => ?_, S.len, fun j s hs => ?_, S.sep, S.ios⟩
  · rw [List.mem_singleton.mp z, hp] at e; cases e
  · rcases hn a h2 with h | h
    · exact S.nw a h1 h
    · exfalso
      cases e : b.B a with
      | none => exact h1 e
      | some o => rw [S.bh a o e] at h; cases h
  · have h := S.sl j s hs
    have keep : ∀ q o, s.isOwn = true → σ[j]? = some (some (.ref q)) → H q = some o → H2 q = some o := fun q o so h1 h2 => hH q o h2 fun z => by
      rw [List.mem_singleton.mp z] at h1
      exact ho ⟨j, ⟨s, hs, so⟩, h1⟩
    cases s with
    | un => trivial
    | val d => obtain ⟨v, h1, h2⟩ := h; exact ⟨v, h1, h2.mono hF⟩
    | own ds => obtain ⟨p, vs, h1, h2, h3, h4, h5⟩ := h; exact ⟨p, vs, h1, keep p _ rfl h1 h2, fz p (by simp [h2]) h3, h4, h5.mono hF⟩
    | owd ds => obtain ⟨p, vs, h1, h2, h3, h4, h5⟩ := h; exact ⟨p, vs, h1, keep p _ rfl h1 h2, fz p (by simp [h2]) h3, h4, h5.mono hF⟩
    | owt ds => obtain ⟨p, vs, h1, h2, h3, h4, h5⟩ := h; exact ⟨p, vs, h1, keep p _ rfl h1 h2, fz p (by simp [h2]) h3, h4, h5.mono hF⟩
    | scr ds => obtain ⟨p, vs, h1, h2, h3⟩ := h; exact ⟨p, vs, h1, same_l hF h2, h3.mono hF⟩
theorem be_callT (F : FnG X.prog X.w X.K X.mg X.base k f fd ps (spFn X.K Φ (io n) n)) (hr : Room k X.A) (hgd : X.A.guards = some []) (hg : Gl X x) (hm : X.mg x = some (.ref f)) (hk : PySem.W.keepIn X.K (.ref f) = true) (hb : Binds X.K fd ps [])
    {r : PyData × Bool} (ha : BE X b e env r.1 r.2 e1) (hc : callTM Φ io n (r, e1) = some ((d, fr), env')) (hdb : (x == ("__debug__" : Str)) = false) (he : starEach [e] X.env = (false, eval e X.env) :: starEach [] X.env) (hpl : (backTo pos (starEach [] X.env)).any (·.1) = false) :
    BE X b (.Call (.Name x p) [e] [] pos) env d fr env' := by
  unfold callTM at hc
  split at hc
  · rename_i ds er
    obtain rfl : r = (.list ds, true) := er
    split at hc
    · rename_i hio
      obtain ⟨⟨⟨d', fr'⟩, outs⟩, hr1, hc⟩ := Option.bind_eq_some_iff.mp hc
      split at hc
      · cases hc
        intro Fz σ H S Q q
        refine we_of (pe_g F hr hgd hg hm hk hb (pa_cons (pe_we e) pa_nil he) hdb he hpl) ?_
        refine ha Fz σ H S _ fun v F1 H1 k1 S1 r1 => ?_
        obtain ⟨pp, vs, rfl, h1, h2, h3, h4, h5⟩ := r1
        show spFn X.K Φ (io n) n [.ref pp] H1 Q E0
        refine ⟨F1, [.list ds], (d, fr), outs, [pp], hr1, S1.fh, by rw [hio]; exact .io h4 h1 h5 .nil, by simp, fun v F' H' j1 j2 j3 j4 j5 j6 => ?_⟩
        have S2 := S1.afterTmp h2 h3 j1 j2 j3 j4
        exact q v F' H' (k1.trans j1) S2 (ResOk.rz S1 (fun p hp ho => by
          have := (S1.own_ref ho).1
          rw [hp] at this; cases this) j6)
      · cases hc
    · cases hc
  · cases hc
end

/-! ### what is walked -/
def WI (X : Cx) (tg it : Expr) : TI := fun σ H R => ∀ (pins : List (Addr × Obj)) (s : Shared), Inv X pins σ H s → wpAny (model X.prog X.w) X.A (eval it X.env) (fun v s1 => wpAny (model X.prog X.w) X.A (pyIter v) (PIE X pins σ tg R) X.xe s1) X.xe s
theorem pi_wi {X : Cx} (tg it : Expr) : PI X tg it (WI X tg it) := ⟨fun pins s _ _ _ I h => h pins s I⟩
theorem wi_of {X : Cx} {tg it : Expr} {wi : TI} (h : PI X tg it wi) {σ : L2.St} {H : Hp} {R : It → Hp → Prop} (q : wi σ H R) : WI X tg it σ H R := fun pins s I => h.run pins s σ H R I q
/-- an item: frozen already, or a new pair -/
def ItY (K : PySem.W.Frag) (F H : Hp) (x : V) (H' : Hp) (d : PyData) : Prop :=
  (H' = H ∧ Rv K F x d) ∨ ∃ T y z dy dz, x = .ref T ∧ H T = none ∧ H' = upd H T (.tup [y, z]) ∧ Rv K F y dy ∧ Rv K F z dz ∧ d = .tuple [dy, dz]
/-- J walks ds, whatever happens outside of F -/
def Wk (K : PySem.W.Frag) (J : It) (F : Hp) (ds : List PyData) : Prop :=
  Walk J ds.length (fun H => Same F H) (fun i H x H' => ∃ d, ds[i]? = some d ∧ ItY K F H x H' d)
def BI (X : Cx) (b : Bs) (tg it : Expr) (env : En) (ds : List PyData) (env' : En) : Prop :=
  ∀ F σ H, Stt X.K b F σ H env → ∀ R : It → Hp → Prop, (∀ J F' H', Same F F' → Stt X.K b F' σ H' env' → Wk X.K J F' ds → R J H') → WI X tg it σ H R
section
variable {X : Cx} {b : Bs} {tg e f : Expr} {env e1 e2 : En} {K : PySem.W.Frag} {F : Hp}
theorem wk_list {a : Addr} {vs : List V} {ds : List PyData} (h : SqL K F a vs) (r : RvAll K F vs ds) : Wk K (Itl K a) F ds := by
  have w := (walk_list (K := K) (a := a) (xs := vs)).mono (G' := fun H => Same F H) (Y' := fun i H x H' => ∃ d, ds[i]? = some d ∧ ItY K F H x H' d) (fun H e => same_l e h) fun i H x H' hi _ ⟨e1, e2⟩ => by
    obtain ⟨d, h1, h2⟩ := r.getV e2
    exact ⟨d, h1, .inl ⟨e1, h2⟩⟩
  rw [r.length] at w
  exact w
theorem wk_tup {a : Addr} {vs : List V} {ds : List PyData} (h : SqT K F a vs) (r : RvAll K F vs ds) : Wk K (Itt K a) F ds := by
  have w := (walk_tup (K := K) (a := a) (xs := vs)).mono (G' := fun H => Same F H) (Y' := fun i H x H' => ∃ d, ds[i]? = some d ∧ ItY K F H x H' d) (fun H e => same_t e h) fun i H x H' hi _ ⟨e1, e2⟩ => by
    obtain ⟨d, h1, h2⟩ := r.getV e2
    exact ⟨d, h1, .inl ⟨e1, h2⟩⟩
  rw [r.length] at w
  exact w
theorem intsFrom_get {a : Int} {n i : Nat} (h : i < n) : (intsFrom a n)[i]? = some (.int (a + (i : Int))) := by
  unfold intsFrom
  rw [List.getElem?_map, List.getElem?_range h]; rfl
theorem wk_range {lo : Int} {n : Nat} : Wk K (Itr lo n) F (intsFrom lo n) := by
  have hl : (intsFrom lo n).length = n := by unfold intsFrom; rw [List.length_map, List.length_range]
  have w := (walk_range (lo := lo) (n := n)).mono (G' := fun H => Same F H) (Y' := fun i H x H' => ∃ d, (intsFrom lo n)[i]? = some d ∧ ItY K F H x H' d) (fun _ _ => trivial) fun i H x H' hi _ ⟨e1, e2⟩ => by
    exact ⟨_, intsFrom_get hi, .inl ⟨e1, by rw [e2]; exact .int _⟩⟩
  unfold Wk
  rw [hl]
  exact w
theorem wk_str {z : Str} : Wk K (Its z) F (strSigns z) := by
  have hl : (strSigns z).length = z.cps.size := by unfold strSigns; rw [List.length_map, Array.length_toList]
  have w := (walk_str (z := z)).mono (G' := fun H => Same F H) (Y' := fun i H x H' => ∃ d, (strSigns z)[i]? = some d ∧ ItY K F H x H' d) (fun _ _ => trivial) fun i H x H' hi _ ⟨e1, c, e2, e3⟩ => by
    refine ⟨.str ⟨#[c]⟩, ?_, .inl ⟨e1, by rw [e3]; exact .str _ (by show 1 ≤ lim; decide)⟩⟩
    unfold strSigns
    rw [List.getElem?_map, Array.getElem?_toList, e2]; rfl
  unfold Wk
  rw [hl]
  exact w
/-- a name, a display .. : a list, a tuple, a text -/
theorem bi_seq {d : PyData} {ds : List PyData} (ha : BE X b e env d false e1) (h : seqItems d = some ds) : BI X b tg e env ds e1 := fun F σ H S R q => by
  cases d with
  | list xs =>
    cases h
    exact wi_of (pi_list (pe_we e)) (ha F σ H S _ fun v F1 H1 k1 S1 r => by
      cases r with
      | lst hq r => exact ⟨_, rfl, ⟨_, SqL.of (S1.fh _ _ hq)⟩, q _ F1 H1 k1 S1 (wk_list (SqL.of hq) r)⟩)
  | tuple xs =>
    cases h
    exact wi_of (pi_tup (pe_we e)) (ha F σ H S _ fun v F1 H1 k1 S1 r => by
      cases r with
      | tup hq r => exact ⟨_, rfl, ⟨_, same_t S1.fh hq⟩, q _ F1 H1 k1 S1 (wk_tup hq r)⟩)
  | str z =>
    cases h
    exact wi_of (pi_str (pe_we e)) (ha F σ H S _ fun v F1 H1 k1 S1 r => by
      cases r with
      | str _ hz => exact ⟨z, rfl, q _ F1 H1 k1 S1 wk_str⟩)
  | dict kvs => cases h
  | none => cases h
  | bool _ => cases h
  | int _ => cases h
theorem bi_rng1 {p pos : Pos} {j : Int} (hg : Gl X "range") (hm : X.mg "range" = none) (ha : BE X b e env (.int j) false e1) (h1 : -(2 ^ 62) ≤ j) (h2 : j < 2 ^ 62) (hs : starEach [e] X.env = [(false, eval e X.env)]) :
    BI X b tg (.Call (.Name "range" p) [e] [] pos) env (intsFrom 0 j.toNat) e1 := fun F σ H S R q =>
  wi_of (pi_range1 hg hm (pa_cons (pe_we e) pa_nil hs) hs) (ha F σ H S _ fun v F1 H1 k1 S1 r => by
    cases r
    exact ⟨j, rfl, h1, h2, q _ F1 H1 k1 S1 wk_range⟩)
theorem bi_rng2 {p pos : Pos} {i j : Int} (hg : Gl X "range") (hm : X.mg "range" = none) (ha : BE X b e env (.int i) false e1) (hb : BE X b f e1 (.int j) false e2) (h : -(2 ^ 62) ≤ i ∧ i < 2 ^ 62 ∧ -(2 ^ 62) ≤ j ∧ j < 2 ^ 62)
    (hs : starEach [e, f] X.env = [(false, eval e X.env), (false, eval f X.env)]) (hs2 : starEach [f] X.env = [(false, eval f X.env)]) :
    BI X b tg (.Call (.Name "range" p) [e, f] [] pos) env (intsFrom i (j - i).toNat) e2 := fun F σ H S R q =>
  wi_of (pi_range2 hg hm (pa_cons (pe_we e) (pa_cons (pe_we f) pa_nil hs2) (by rw [hs, hs2])) hs hs2) (ha F σ H S _ fun v F1 H1 k1 S1 r => hb F1 σ H1 S1 _ fun w F2 H2 k2 S2 r2 => by
    cases r
    cases r2
    exact ⟨i, j, rfl, h, q _ F2 H2 (k1.trans k2) S2 wk_range⟩)
end
end Mi

set_option maxHeartbeats 2000000
/-! D13: targets; list comprehensions. -/
namespace Mi
open PySem PySem.Spec PyProof.Rows L2

section
variable {K : PySem.W.Frag} {b : Bs} {F F2 : Hp} {σ : L2.St} {H H2 : Hp} {env : En}
/-- a slot is set: its old word is forgotten -/
theorem Stt.setS (S : Stt K b F σ H env) {i : Nat} {v : V} {s : Sl} (hio : ∀ q ∈ b.io, q.1 ≠ i) (hs : i < env.length → SlOk K b F (σ.set i (some v)) H i s) (ho : s.isOwn = true → ∀ p, v = .ref p → ¬ OwnP env σ p) : Stt K b F (σ.set i (some v)) H (env.set i s) := by
  by_cases hi : i < env.length
  · have hi2 : i < σ.length := by rw [← S.len]; exact hi
    have ne : ∀ {j : Nat}, j ≠ i → (σ.set i (some v))[j]? = σ[j]? := fun h => List.getElem?_set_ne (Ne.symm h)
    refine ⟨S.fh, S.bh, S.ff, S.nw, by rw [List.length_set, List.length_set]; exact S.len, fun j t ht => ?_, fun j k p hj hk h1 h2 => ?_, fun q hq => by rw [ne (hio q hq)]; exact S.ios q hq⟩
    · by_cases e : i = j
      · subst e
        rw [List.getElem?_set_self hi] at ht; cases ht
        exact hs hi
      · rw [List.getElem?_set_ne e] at ht
        have h := S.sl j t ht
        have n := ne (Ne.symm e)
        cases t with
        | un => trivial
        | val d => obtain ⟨w, h1, h2⟩ := h; exact ⟨w, by rw [n]; exact h1, h2⟩
        | own ds => obtain ⟨p, vs, h1, h2⟩ := h; exact ⟨p, vs, by rw [n]; exact h1, h2⟩
        | owd ds => obtain ⟨p, vs, h1, h2⟩ := h; exact ⟨p, vs, by rw [n]; exact h1, h2⟩
        | owt ds => obtain ⟨p, vs, h1, h2⟩ := h; exact ⟨p, vs, by rw [n]; exact h1, h2⟩
        | scr ds => obtain ⟨p, vs, h1, h2⟩ := h; exact ⟨p, vs, by rw [n]; exact h1, h2⟩
    · rcases ownAt_set hj with ⟨rfl, o1⟩ | ⟨n1, o1⟩
      · rcases ownAt_set hk with ⟨rfl, o2⟩ | ⟨n2, o2⟩
        · rfl
        · rw [List.getElem?_set_self hi2] at h1; cases h1
          rw [ne n2] at h2
          exact (ho o1 p rfl ⟨k, o2, h2⟩).elim
      · rcases ownAt_set hk with ⟨rfl, o2⟩ | ⟨n2, o2⟩
        · rw [List.getElem?_set_self hi2] at h2; cases h2
          rw [ne n1] at h1
          exact (ho o2 p rfl ⟨j, o1, h1⟩).elim
        · rw [ne n1] at h1
          rw [ne n2] at h2
          exact S.sep j k p o1 o2 h1 h2
  · have hi2 : σ.length ≤ i := by rw [← S.len]; omega
    rw [List.set_eq_of_length_le (l := env) (by omega), List.set_eq_of_length_le (l := σ) hi2]
    exact S
theorem Stt.setV (S : Stt K b F σ H env) {i : Nat} {v : V} {d : PyData} (hio : ∀ q ∈ b.io, q.1 ≠ i) (h : Rv K F v d) : Stt K b F (σ.set i (some v)) H (env.set i (.val d)) :=
  S.setS hio (fun hi => ⟨v, List.getElem?_set_self (by rw [← S.len]; exact hi), h⟩) fun z => nomatch z
/-- .. with what came, new or not -/
theorem Stt.setZ (S : Stt K b F σ H env) {i : Nat} {v : V} {d : PyData} {fr : Bool} (hio : ∀ q ∈ b.io, q.1 ≠ i) (h : Rz K b F σ H env v d fr) : Stt K b F (σ.set i (some v)) H (env.set i (toSl fr d)) := by
  cases fr with
  | false => exact S.setV hio h
  | true =>
    cases d with
    | list ds =>
      obtain ⟨p, vs, rfl, h1, h2, h3, h4, h5⟩ := h
      exact S.setS hio (fun hi => ⟨p, vs, List.getElem?_set_self (by rw [← S.len]; exact hi), h4, h1, h2, h5⟩) fun _ q e => by cases e; exact h3
    | dict ds =>
      obtain ⟨p, vs, rfl, h1, h2, h3, h4, h5⟩ := h
      exact S.setS hio (fun hi => ⟨p, vs, List.getElem?_set_self (by rw [← S.len]; exact hi), h4, h1, h2, h5⟩) fun _ q e => by cases e; exact h3
    | none => exact S.setV hio h
    | bool x => exact S.setV hio h
    | int x => exact S.setV hio h
    | str x => exact S.setV hio h
    | tuple x => exact S.setV hio h
end

/-! ### targets -/
def WG (X : Cx) (tg : Expr) : TG := fun v σ H Q => ∀ (pins : List (Addr × Obj)) (s : Shared) (u : Value), Inv X pins σ H s → RelV v u → wpAny (model X.prog X.w) X.A (assign tg X.env u) (fun _ s' => ∃ σ' H', Inv X pins σ' H' s' ∧ Q σ' H') X.xe s
def WGs (X : Cx) (ts : List Expr) : TGs := fun vs σ H Q => ∀ (pins : List (Addr × Obj)) (s : Shared) (us : List Value), Inv X pins σ H s → Vals vs us → wpAny (model X.prog X.w) X.A (assignInOrder ((assignEach ts X.env).map (·.2)) us) (fun _ s' => ∃ σ' H', Inv X pins σ' H' s' ∧ Q σ' H') X.xe s
theorem pg_wg {X : Cx} (tg : Expr) : PG X tg (WG X tg) := ⟨fun pins s _ _ _ u _ I r h => h pins s u I r⟩
theorem pgs_wgs {X : Cx} (ts : List Expr) : PGs X ts (WGs X ts) := ⟨fun pins s _ _ _ us _ I r h => h pins s us I r⟩
theorem wg_of {X : Cx} {tg : Expr} {g : TG} (h : PG X tg g) {v : V} {σ : L2.St} {H : Hp} {Q : L2.St → Hp → Prop} (q : g v σ H Q) : WG X tg v σ H Q := fun pins s u I r => h.run pins s σ H v u Q I r q
theorem wgs_of {X : Cx} {ts : List Expr} {g : TGs} (h : PGs X ts g) {vs : List V} {σ : L2.St} {H : Hp} {Q : L2.St → Hp → Prop} (q : g vs σ H Q) : WGs X ts vs σ H Q := fun pins s us I r => h.run pins s σ H vs us Q I r q
def tgsOf : MG → List Nat
  | .nm i => [i]
  | .tp l => l
/-- a loop's, a comprehension's target takes an item -/
def BG (X : Cx) (tg : Expr) (g : MG) : Prop :=
  ∀ (b : Bs) (F : Hp) (σ : L2.St) (H : Hp) (v : V) (d : PyData) (env env1 : En), (∀ q ∈ b.io, q.1 ∉ tgsOf g) → Stt X.K b F σ H env → Rv X.K F v d → bindT g d env = some env1 →
    ∀ Q : L2.St → Hp → Prop, (∀ σ', Stt X.K b F σ' H env1 → (∀ i, i ∉ tgsOf g → σ'[i]? = σ[i]?) → σ'.length = σ.length → Q σ' H) → WG X tg v σ H Q
def BGl (X : Cx) (ts : List Expr) (is : List Nat) : Prop :=
  ∀ (b : Bs) (F : Hp) (σ : L2.St) (H : Hp) (vs : List V) (ds : List PyData) (env env1 : En), (∀ q ∈ b.io, q.1 ∉ is) → Stt X.K b F σ H env → RvAll X.K F vs ds → setVals is ds env = some env1 →
    ∀ Q : L2.St → Hp → Prop, (∀ σ', Stt X.K b F σ' H env1 → (∀ i, i ∉ is → σ'[i]? = σ[i]?) → σ'.length = σ.length → Q σ' H) → WGs X ts vs σ H Q
section
variable {X : Cx} {i : Nat} {x : Str} {pos : Pos}
theorem bg_nm (hN : X.N.Nodup) (hi : X.N[i]? = some x) (hx : Loc X.env.scope x) (hf : X.fn x = true ∨ X.env.scope.names.lookup x = some .local) : BG X (.Name x pos) (.nm i) := fun b F σ H v d env env1 hio S r e Q q => by
  cases e
  refine wg_of (pg_name hN hi hx hf) (q _ (S.setV (fun z hz => by simpa [tgsOf] using hio z hz) r) (fun j hj => List.getElem?_set_ne fun z => hj (by simp [tgsOf, z])) List.length_set)
theorem bgl_nil : BGl X [] [] := fun b F σ H vs ds env env1 hio S r e Q q => by
  cases ds with
  | nil => cases r; cases e; exact wgs_of pgs_nil ⟨rfl, q σ S (fun _ _ => rfl) rfl⟩
  | cons => cases e
theorem bgl_cons {ts : List Expr} {is : List Nat} (hN : X.N.Nodup) (hi : X.N[i]? = some x) (hx : Loc X.env.scope x) (hf : X.fn x = true ∨ X.env.scope.names.lookup x = some .local) (h : BGl X ts is) : BGl X (.Name x pos :: ts) (i :: is) := fun b F σ H vs ds env env1 hio S r e Q q => by
  cases ds with
  | nil => cases e
  | cons d ds =>
    cases r with
    | cons r rs =>
      refine wgs_of (pgs_cons (pg_name hN hi hx hf) (pgs_wgs ts)) ⟨_, _, rfl, ?_⟩
      refine h b F _ H _ ds _ env1 (fun z hz hm => hio z hz (List.mem_cons_of_mem _ hm)) (S.setV (fun z hz e => hio z hz (by rw [e]; exact List.mem_cons_self)) r) rs e Q fun σ' S' k l => q σ' S' (fun j hj => ?_) (by rw [l, List.length_set])
      rw [k j fun z => hj (List.mem_cons_of_mem _ z), List.getElem?_set_ne fun z => hj (by rw [z]; exact List.mem_cons_self)]
theorem bg_tp {ts : List Expr} {is : List Nat} {k : Nat} (hc : X.calm = true) (h : BGl X ts is) (hn : (assignEach ts X.env).length = ts.length) (hst : (assignEach ts X.env).findIdx? (·.1) = none) (hl : ts.length = is.length) : BG X (.Tuple ts k pos) (.tp is) := fun b F σ H v d env env1 hio S r e Q q => by
  cases d with
  | tuple ds =>
    cases r with
    | tup hq r =>
      have e' : setVals is ds env = some env1 := e
      have len : ∀ {is : List Nat} {ds : List PyData} {env env1 : En}, setVals is ds env = some env1 → ds.length = is.length := fun {is} => by
        induction is with
        | nil => intro ds env env1 h; cases ds with
          | nil => rfl
          | cons => cases h
        | cons i is ih => intro ds env env1 h; cases ds with
          | nil => cases h
          | cons d ds => rw [List.length_cons, List.length_cons, ih (show setVals is ds _ = _ from h)]
      exact wg_of (pg_tup hc (pgs_wgs ts) hn hst) ⟨_, _, rfl, same_t S.fh hq, by rw [r.length, len e', hl], h b F σ H _ ds env env1 hio S r e' Q q⟩
  | _ => cases e
end

/-! ### lists told by a comprehension -/
section
variable {K : PySem.W.Frag} {b : Bs} {F : Hp} {σ : L2.St} {H : Hp} {env : En}
theorem wipeE_get : ∀ (vs : List Nat) (env : En) (j : Nat), (wipeE env vs)[j]? = if j ∈ vs then (if j < env.length then some .un else none) else env[j]?
  | [], env, j => by simp [wipeE]
  | v :: vs, env, j => by
    have len : ∀ vs : List Nat, (wipeE env vs).length = env.length := fun vs => by
      induction vs with
      | nil => rfl
      | cons v vs ih => show ((wipeE env vs).set v .un).length = _; rw [List.length_set, ih]
    show ((wipeE env vs).set v .un)[j]? = _
    by_cases e : v = j
    · subst e
      rw [if_pos List.mem_cons_self]
      by_cases hl : v < env.length
      · rw [if_pos hl, List.getElem?_set_self (by rw [len]; exact hl)]
      · rw [if_neg hl, List.getElem?_eq_none (by rw [List.length_set, len]; omega)]
    · rw [List.getElem?_set_ne e, wipeE_get vs env j]
      have hm : j ∈ v :: vs ↔ j ∈ vs := by simp [Ne.symm e]
      by_cases h : j ∈ vs
      · rw [if_pos h, if_pos (hm.mpr h)]
      · rw [if_neg h, if_neg fun z => h (hm.mp z)]
theorem wipeE_len (env : En) : ∀ vs : List Nat, (wipeE env vs).length = env.length
  | [] => rfl
  | v :: vs => by show ((wipeE env vs).set v .un).length = _; rw [List.length_set, wipeE_len env vs]
theorem backE_len (e0 env : En) : ∀ vs : List Nat, (backE e0 env vs).length = env.length
  | [] => rfl
  | v :: vs => by show ((backE e0 env vs).set v _).length = _; rw [List.length_set, backE_len e0 env vs]
theorem backE_get (e0 : En) : ∀ (vs : List Nat) (env : En) (j : Nat), (backE e0 env vs)[j]? = if j ∈ vs then (if j < env.length then some ((e0[j]?).getD .un) else none) else env[j]?
  | [], env, j => by simp [backE]
  | v :: vs, env, j => by
    show ((backE e0 env vs).set v ((e0[v]?).getD .un))[j]? = _
    by_cases e : v = j
    · subst e
      rw [if_pos List.mem_cons_self]
      by_cases hl : v < env.length
      · rw [if_pos hl, List.getElem?_set_self (by rw [backE_len]; exact hl)]
      · rw [if_neg hl, List.getElem?_eq_none (by rw [List.length_set, backE_len]; omega)]
    · rw [List.getElem?_set_ne e, backE_get e0 vs env j]
      have hm : j ∈ v :: vs ↔ j ∈ vs := by simp [Ne.symm e]
      by_cases h : j ∈ vs
      · rw [if_pos h, if_pos (hm.mpr h)]
      · rw [if_neg h, if_neg fun z => h (hm.mp z)]
/-- the block's own names forgotten -/
theorem Stt.wipe (S : Stt K b F σ H env) {vs : List Nat} (hio : ∀ q ∈ b.io, q.1 ∉ vs) : Stt K b F (L2.wipe σ vs) H (wipeE env vs) := by
  have own : ∀ {j : Nat}, ownAt (wipeE env vs) j → j ∉ vs ∧ ownAt env j := fun {j} ⟨s, h1, h2⟩ => by
    rw [wipeE_get] at h1
    by_cases hj : j ∈ vs
    · rw [if_pos hj] at h1
      split at h1
      · cases h1; cases h2
      · cases h1
    · rw [if_neg hj] at h1
      exact ⟨hj, s, h1, h2⟩
  refine ⟨S.fh, S.bh, S.ff, S.nw, by rw [wipeE_len, wipe_length]; exact S.len, fun j s hs => ?_, fun i j p hi hj h1 h2 => ?_, fun q hq => by rw [wipe_out (hio q hq)]; exact S.ios q hq⟩
  · rw [wipeE_get] at hs
    by_cases hj : j ∈ vs
    · rw [if_pos hj] at hs
      split at hs
      · cases hs; trivial
      · cases hs
    · rw [if_neg hj] at hs
      have h := S.sl j s hs
      have n : (L2.wipe σ vs)[j]? = σ[j]? := wipe_out hj
      cases s with
      | un => trivial
      | val d => obtain ⟨w, h1, h2⟩ := h; exact ⟨w, by rw [n]; exact h1, h2⟩
      | own ds => obtain ⟨p, ws, h1, h2⟩ := h; exact ⟨p, ws, by rw [n]; exact h1, h2⟩
      | owd ds => obtain ⟨p, ws, h1, h2⟩ := h; exact ⟨p, ws, by rw [n]; exact h1, h2⟩
      | owt ds => obtain ⟨p, ws, h1, h2⟩ := h; exact ⟨p, ws, by rw [n]; exact h1, h2⟩
      | scr ds => obtain ⟨p, ws, h1, h2⟩ := h; exact ⟨p, ws, by rw [n]; exact h1, h2⟩
  · obtain ⟨n1, o1⟩ := own hi
    obtain ⟨n2, o2⟩ := own hj
    rw [wipe_out n1] at h1
    rw [wipe_out n2] at h2
    exact S.sep i j p o1 o2 h1 h2
/-- b with the new list at D as it stands -/
def withD (b : Bs) (D : Addr) (acc : List V) : Bs := ⟨upd b.B D (.lst acc), b.F0, b.io, b.w⟩
theorem Stt.addD (S : Stt K b F σ H env) {D : Addr} (hD : H D = none) : Stt K (withD b D []) F σ (upd H D (.lst [])) env := by
  have S1 : Stt K b F σ (upd H D (.lst [])) env := S.newH hD
  obtain ⟨f1, f2, f3⟩ := S.free hD
  refine ⟨S1.fh, fun a o e => ?_, S1.ff, fun a h1 h2 => ?_, S1.len, fun j s hs => ?_, S1.sep, S1.ios⟩
  · by_cases ha : a = D
    · subst ha
      have e : upd b.B a (.lst []) a = some o := e
      rw [upd_same] at e ⊢; exact e
    · have e : upd b.B D (.lst []) a = some o := e
      rw [upd_ne ha] at e
      exact S1.bh a o e
  · by_cases ha : a = D
    · subst ha; exact absurd f1 h2
    · have h1 : upd b.B D (.lst []) a ≠ none := h1
      rw [upd_ne ha] at h1
      exact S1.nw a h1 h2
  · have h := S1.sl j s hs
    have nD : ∀ p o, H p = some o → p ≠ D := fun p o e z => by rw [z, hD] at e; cases e
    cases s with
    | un => trivial
    | val d => exact h
    | own ds =>
      obtain ⟨p, ws, h1, h2, h3, h4, h5⟩ := h
      obtain ⟨q, _, k1, k2, _⟩ := S.sl j _ hs
      rw [h1] at k1; cases k1
      exact ⟨p, ws, h1, h2, h3, by show upd b.B D (.lst []) p = none; rw [upd_ne (nD p _ k2)]; exact h4, h5⟩
    | owd ds =>
      obtain ⟨p, ws, h1, h2, h3, h4, h5⟩ := h
      obtain ⟨q, _, k1, k2, _⟩ := S.sl j _ hs
      rw [h1] at k1; cases k1
      exact ⟨p, ws, h1, h2, h3, by show upd b.B D (.lst []) p = none; rw [upd_ne (nD p _ k2)]; exact h4, h5⟩
    | owt ds =>
      obtain ⟨p, ws, h1, h2, h3, h4, h5⟩ := h
      obtain ⟨q, _, k1, k2, _⟩ := S.sl j _ hs
      rw [h1] at k1; cases k1
      exact ⟨p, ws, h1, h2, h3, by show upd b.B D (.lst []) p = none; rw [upd_ne (nD p _ k2)]; exact h4, h5⟩
    | scr ds => exact h
theorem Stt.growD {D : Addr} {acc acc' : List V} (S : Stt K (withD b D acc) F σ H env) (hF0 : b.F0 D = none) (hb : b.B D = none) : Stt K (withD b D acc') F σ (upd H D (.lst acc')) env := by
  have fD : F D = none := by
    cases e : F D with
    | none => rfl
    | some o => exact absurd hF0 (S.nw D (by show upd b.B D (.lst acc) D ≠ none; rw [upd_same]; simp) (by rw [e]; simp))
  have nD : ∀ p, (withD b D acc).B p = none → p ≠ D := fun p e z => by
    have e : upd b.B D (.lst acc) p = none := e
    rw [z, upd_same] at e; cases e
  refine ⟨fun a o e => ?_, fun a o e => ?_, S.ff, fun a h1 h2 => ?_, S.len, fun j s hs => ?_, S.sep, S.ios⟩
  · rw [upd_ne (fun z => by rw [z, fD] at e; cases e)]; exact S.fh a o e
  · by_cases ha : a = D
    · subst ha
      have e : upd b.B a (.lst acc') a = some o := e
      rw [upd_same] at e ⊢; exact e
    · have e : upd b.B D (.lst acc') a = some o := e
      rw [upd_ne ha] at e ⊢
      exact S.bh a o (by show upd b.B D (.lst acc) a = some o; rw [upd_ne ha]; exact e)
  · by_cases ha : a = D
    · subst ha; exact absurd fD h2
    · have h1 : upd b.B D (.lst acc') a ≠ none := h1
      rw [upd_ne ha] at h1
      exact S.nw a (by show upd b.B D (.lst acc) a ≠ none; rw [upd_ne ha]; exact h1) h2
  · have h := S.sl j s hs
    have tr : ∀ p, (withD b D acc).B p = none → (withD b D acc').B p = none := fun p e => by
      have n := nD p e
      have e : upd b.B D (.lst acc) p = none := e
      rw [upd_ne n] at e
      show upd b.B D (.lst acc') p = none
      rw [upd_ne n]; exact e
    cases s with
    | un => trivial
    | val d => exact h
    | own ds => obtain ⟨p, ws, h1, h2, h3, h4, h5⟩ := h; exact ⟨p, ws, h1, by rw [upd_ne (nD p h4)]; exact h2, h3, tr p h4, h5⟩
    | owd ds => obtain ⟨p, ws, h1, h2, h3, h4, h5⟩ := h; exact ⟨p, ws, h1, by rw [upd_ne (nD p h4)]; exact h2, h3, tr p h4, h5⟩
    | owt ds => obtain ⟨p, ws, h1, h2, h3, h4, h5⟩ := h; exact ⟨p, ws, h1, by rw [upd_ne (nD p h4)]; exact h2, h3, tr p h4, h5⟩
    | scr ds => exact h
end
end Mi

set_option maxHeartbeats 2000000
/-! D14: list comprehensions. -/
namespace Mi
open PySem PySem.Spec PyProof.Rows L2

abbrev blkOf (X : Cx) (scope : Scope) (s : Shared) (H : Hp) (C : Addr) (cl : List (Str × Addr)) (fp : List Addr) : Cx := X.blk s H scope (compEnvC scope cl C X.env) fp
def WTs (X : Cx) (ifs : List Expr) : TT := fun σ H Q => ∀ (pins : List (Addr × Obj)) (s : Shared), Inv X pins σ H s → wpAny (model X.prog X.w) X.A (forIn ifs true fun c r => if r = true then do let ok ← isTrue c X.env (eval c X.env); pure (ForInStep.yield ok) else pure (ForInStep.yield r)) (TP X pins σ Q) X.xe s
theorem pts_wts {X : Cx} (ifs : List Expr) : PTs X ifs (WTs X ifs) := ⟨fun pins s _ _ _ I h => h pins s I⟩
theorem wts_of {X : Cx} {ifs : List Expr} {t : TT} (h : PTs X ifs t) {σ : L2.St} {H : Hp} {Q : Bool → Hp → Prop} (q : t σ H Q) : WTs X ifs σ H Q := fun pins s I => h.run pins s σ H Q I q
def BTs (X : Cx) (b : Bs) (ifs : List Expr) (env : En) (t : Bool) (env' : En) : Prop :=
  ∀ F σ H, Stt X.K b F σ H env → ∀ Q : Bool → Hp → Prop, (∀ F' H', Same F F' → Stt X.K b F' σ H' env' → Q t H') → WTs X ifs σ H Q
theorem bts_nil {X : Cx} {b : Bs} {env : En} : BTs X b [] env true env := fun F σ H S Q q => wts_of pts_nil (q F H (Same.refl F) S)
theorem bts_one {X : Cx} {b : Bs} {c : Expr} {env env' : En} {t : Bool} (h : BT X b c env t env') : BTs X b [c] env t env' := fun F σ H S Q q =>
  wts_of (pts_one (pt_wt c)) (h F σ H S Q q)
/-- what the block's parts ask, in every context of the block -/
def UG (X : Cx) (scope : Scope) (tg : Expr) : TG := fun v σ H Q => ∀ s H0 C cl fp, WG (blkOf X scope s H0 C cl fp) tg v σ H Q
def UT (X : Cx) (scope : Scope) (ifs : List Expr) : TT := fun σ H Q => ∀ s H0 C cl fp, WTs (blkOf X scope s H0 C cl fp) ifs σ H Q
def UE (X : Cx) (scope : Scope) (e : Expr) : TE := fun σ H Q => ∀ s H0 C cl fp, WE (blkOf X scope s H0 C cl fp) e σ H Q

theorem wipe_eq {σ σ' : L2.St} {vs : List Nat} (h : ∀ i, i ∉ vs → σ'[i]? = σ[i]?) (hl : σ'.length = σ.length) : L2.wipe σ' vs = L2.wipe σ vs := by
  refine List.ext_getElem? fun j => ?_
  have g : ∀ {τ : L2.St} {j : Nat}, j ∈ vs → (L2.wipe τ vs)[j]? = if j < τ.length then some none else none := fun {τ j} hj => by
    clear h hl
    induction vs with
    | nil => cases hj
    | cons v vs ih =>
      show ((L2.wipe τ vs).set v none)[j]? = _
      by_cases e : v = j
      · subst e
        by_cases hv : v < τ.length
        · rw [if_pos hv, List.getElem?_set_self (by rw [wipe_length]; exact hv)]
        · rw [if_neg hv, List.getElem?_eq_none (by rw [List.length_set, wipe_length]; omega)]
      · rw [List.getElem?_set_ne e]
        rcases List.mem_cons.mp hj with z | z
        · exact absurd z.symm e
        · exact ih z
  by_cases hj : j ∈ vs
  · rw [g hj, g hj, hl]
  · rw [wipe_out hj, wipe_out hj, h j hj]
theorem wipe_wipe (σ : L2.St) (vs : List Nat) : L2.wipe (L2.wipe σ vs) vs = L2.wipe σ vs := wipe_eq (fun i hi => wipe_out hi) (wipe_length σ vs)

section
variable {K : PySem.W.Frag} {b : Bs} {F F' : Hp} {σ : L2.St} {H H1 : Hp} {env e1 e2 : En}
/-- behind the comprehension -/
theorem Stt.back {D : Addr} {acc : List V} {vs : List Nat} (S1 : Stt K b F σ H1 e1) (S : Stt K (withD b D acc) F' (L2.wipe σ vs) H (wipeE e2 vs)) (hF : Same F F') (hD : H1 D = none) (hv : vs.all (notOwn e1) = true) :
    Stt K b F' σ H (backE e1 e2 vs) ∧ ¬ OwnP (backE e1 e2 vs) σ D := by
  obtain ⟨f1, f2, f3⟩ := S1.free hD
  have len : e2.length = σ.length := by have := S.len; rw [wipeE_len, wipe_length] at this; exact this
  have lnE : e1.length = σ.length := S1.len
  have no : ∀ {j : Nat} {s : Sl}, j ∈ vs → e1[j]? = some s → s.isOwn = false := fun {j s} hj e => by
    have := List.all_eq_true.mp hv j hj
    unfold notOwn at this
    rw [e] at this
    cases s <;> first | rfl | simp at this
  have own : ∀ {j : Nat}, ownAt (backE e1 e2 vs) j → j ∉ vs ∧ ownAt (wipeE e2 vs) j := fun {j} ⟨s, h1, h2⟩ => by
    rw [backE_get] at h1
    by_cases hj : j ∈ vs
    · rw [if_pos hj] at h1
      split at h1
      · cases h1
        cases e : e1[j]? with
        | none => rw [e] at h2; cases h2
        | some s => rw [e] at h2; have := no hj e; rw [show ((some s).getD Sl.un) = s from rfl] at h2; rw [this] at h2; cases h2
      · cases h1
    · rw [if_neg hj] at h1
      exact ⟨hj, s, by rw [wipeE_get, if_neg hj]; exact h1, h2⟩
  have bB : ∀ a o, b.B a = some o → (withD b D acc).B a = some o := fun a o e => by
    show upd b.B D (.lst acc) a = some o
    rw [upd_ne (fun z => by rw [z, f2] at e; cases e)]; exact e
  have bN : ∀ a, (withD b D acc).B a = none → a ≠ D ∧ b.B a = none := fun a e => by
    have e : upd b.B D (.lst acc) a = none := e
    by_cases z : a = D
    · rw [z, upd_same] at e; cases e
    · rw [upd_ne z] at e; exact ⟨z, e⟩
  refine ⟨⟨S.fh, fun a o e => S.bh a o (bB a o e), S1.ff.trans hF, fun a h1 h2 => ?_, by rw [backE_len]; exact len, fun j s hs => ?_, fun i j p hi hj h1 h2 => ?_, S1.ios⟩, fun ⟨j, hj, e⟩ => ?_⟩
  · cases e : b.B a with
    | none => exact absurd e h1
    | some o => exact S.nw a (by rw [bB a o e]; simp) h2
  · rw [backE_get] at hs
    by_cases hj : j ∈ vs
    · rw [if_pos hj] at hs
      split at hs
      · cases hs
        cases e : e1[j]? with
        | none => trivial
        | some s =>
          have h := S1.sl j s e
          have n := no hj e
          show SlOk K b F' σ H j s
          cases s with
          | un => trivial
          | val d => obtain ⟨v, h1, h2⟩ := h; exact ⟨v, h1, h2.mono hF⟩
          | own ds => cases n
          | owd ds => cases n
          | owt ds => cases n
          | scr ds => obtain ⟨p, ws, h1, h2, h3⟩ := h; exact ⟨p, ws, h1, same_l hF h2, h3.mono hF⟩
      · cases hs
    · rw [if_neg hj] at hs
      have h := S.sl j s (by rw [wipeE_get, if_neg hj]; exact hs)
      have n : (L2.wipe σ vs)[j]? = σ[j]? := wipe_out hj
      cases s with
      | un => trivial
      | val d => obtain ⟨w, h1, h2⟩ := h; exact ⟨w, by rw [← n]; exact h1, h2⟩
      | own ds => obtain ⟨p, ws, h1, h2, h3, h4, h5⟩ := h; exact ⟨p, ws, by rw [← n]; exact h1, h2, h3, (bN p h4).2, h5⟩
      | owd ds => obtain ⟨p, ws, h1, h2, h3, h4, h5⟩ := h; exact ⟨p, ws, by rw [← n]; exact h1, h2, h3, (bN p h4).2, h5⟩
      | owt ds => obtain ⟨p, ws, h1, h2, h3, h4, h5⟩ := h; exact ⟨p, ws, by rw [← n]; exact h1, h2, h3, (bN p h4).2, h5⟩
      | scr ds => obtain ⟨p, ws, h1, h2⟩ := h; exact ⟨p, ws, by rw [← n]; exact h1, h2⟩
  · obtain ⟨n1, o1⟩ := own hi
    obtain ⟨n2, o2⟩ := own hj
    exact S.sep i j p o1 o2 (by rw [wipe_out n1]; exact h1) (by rw [wipe_out n2]; exact h2)
  · obtain ⟨n1, o1⟩ := own hj
    have := (S.own_ref ⟨j, o1, by rw [wipe_out n1]; exact e⟩).2.2
    exact (bN D this).1 rfl
end

section
variable {X : Cx} {b : Bs} {scope : Scope} {tg iter elt : Expr} {ifs : List Expr} {vs : List Nat} {g : MG} {c : En → Option (Bool × En)} {e : En → Option (PyData × En)} {items ds : List PyData} {env e1 e2 : En}
theorem lc_ok (hi : BI X b tg iter env items e1) (hv : vs.all (notOwn e1) = true) (hio : ∀ q ∈ b.io, q.1 ∉ vs) (hgv : ∀ i ∈ tgsOf g, i ∈ vs)
    (hg : ∀ s H0 C cl fp, BG (blkOf X scope s H0 C cl fp) tg g)
    (hc : ∀ b' : Bs, (b'.io = b.io ∧ b'.w = b.w) → ∀ en t en', c en = some (t, en') → ∀ s H0 C cl fp, BTs (blkOf X scope s H0 C cl fp) b' ifs en t en')
    (he : ∀ b' : Bs, (b'.io = b.io ∧ b'.w = b.w) → ∀ en d en', e en = some (d, en') → ∀ s H0 C cl fp, BE (blkOf X scope s H0 C cl fp) b' elt en d false en')
    (hl : compL vs g c e items [] e1 = some (ds, e2)) :
    ∀ F σ H, Stt X.K b F σ H env → ∀ Q : VK, (∀ v F' H', Same F F' → Stt X.K b F' σ H' (backE e1 e2 vs) → Rz X.K b F' σ H' (backE e1 e2 vs) v (.list ds) true → Q v H') →
      tLc (WI X tg iter) (UG X scope tg) (UT X scope ifs) (UE X scope elt) vs σ H Q := by
  intro F σ H S Q q
  refine hi F σ H S _ fun J F1 H1 k1 S1 w => ?_
  intro D hD
  obtain ⟨f1, f2, f3⟩ := S1.free hD
  have f0 : b.F0 D = none := by
    cases z : b.F0 D with
    | none => rfl
    | some o => have := S1.ff D o z; rw [f1] at this; cases this
  refine lc_it w (g := UG X scope tg) (tt := UT X scope ifs) (te := UE X scope elt) (vs := vs) (Qd := fun H => Q (.ref D) H)
    (fun i H => ∃ F' av ad en, Same F1 F' ∧ Stt X.K (withD b D av) F' (L2.wipe σ vs) H (wipeE en vs) ∧ RvAll X.K F' av ad ∧ compL vs g c e (items.drop i) ad en = some (ds, e2)) ?_ ?_ ?_ ?_
  · exact ⟨F1, [], [], e1, Same.refl F1, (S1.addD hD).wipe hio, .nil, by rw [List.drop_zero]; exact hl⟩
  · intro i H hi ⟨F', av, ad, en, k, S', _⟩
    exact k.trans S'.fh
  · intro i x H H' hi ⟨F', av, ad, en, k, S', ra, hcl⟩ ⟨d, hd, y⟩
    obtain ⟨F2, k2, S2, rx⟩ : ∃ F2, Same F' F2 ∧ Stt X.K (withD b D av) F2 (L2.wipe σ vs) H' (wipeE en vs) ∧ Rv X.K F2 x d := by
      rcases y with ⟨rfl, rx⟩ | ⟨T, y, z, dy, dz, rfl, hT, rfl, ry, rz, rfl⟩
      · exact ⟨F', Same.refl F', S', rx.mono k⟩
      · obtain ⟨j1, j2, j3⟩ := S'.mkT hT (.cons (ry.mono k) (.cons (rz.mono k) .nil))
        exact ⟨_, j1, j2, j3⟩
    have hdrop : items.drop i = d :: items.drop (i + 1) := by
      obtain ⟨h1, h2⟩ := List.getElem?_eq_some_iff.mp hd
      rw [List.drop_eq_getElem_cons h1, h2]
    rw [hdrop] at hcl
    obtain ⟨env1, hb1, hcl⟩ := Option.bind_eq_some_iff.mp (show (bindT g d (wipeE en vs)).bind _ = _ from hcl)
    obtain ⟨⟨t, en2⟩, hb2, hcl⟩ := Option.bind_eq_some_iff.mp hcl
    intro s H0 C cl fp
    refine hg s H0 C cl fp (withD b D av) F2 (L2.wipe σ vs) H' x d (wipeE en vs) env1 (fun q hq hm => hio q hq (hgv _ hm)) S2 rx hb1 _ fun σ' S3 g1 g2 => ?_
    have hw : L2.wipe σ' vs = L2.wipe σ vs := by
      rw [wipe_eq (σ := L2.wipe σ vs) (fun i hi => g1 i fun z => hi (hgv i z)) g2, wipe_wipe]
    refine ⟨hw, fun s H0 C cl fp => hc (withD b D av) ⟨rfl, rfl⟩ env1 t en2 hb2 s H0 C cl fp F2 σ' H' S3 _ fun F3 H3 k3 S4 => ?_⟩
    cases t with
    | true =>
      rw [if_pos rfl]
      rw [if_pos rfl] at hcl
      obtain ⟨⟨dd, en3⟩, hb3, hcl⟩ := Option.bind_eq_some_iff.mp hcl
      split at hcl
      · rename_i hlen
        intro s H0 C cl fp
        refine he (withD b D av) ⟨rfl, rfl⟩ en2 dd en3 hb3 s H0 C cl fp F3 σ' H3 S4 _ fun v F4 H4 k4 S5 rv => ?_
        refine ⟨av, S5.bh D _ upd_same, by rw [ra.length, ← lim_eq]; exact hlen, F4, av ++ [v], ad ++ [dd], en3, k.trans (k2.trans (k3.trans k4)), ?_, (ra.mono (k2.trans (k3.trans k4))).append (.cons rv .nil), hcl⟩
        rw [← hw]
        exact (S5.growD f0 f2).wipe hio
      · cases hcl
    | false =>
      rw [if_neg Bool.false_ne_true]
      rw [if_neg Bool.false_ne_true] at hcl
      refine ⟨F3, av, ad, en2, k.trans (k2.trans k3), ?_, ra.mono (k2.trans k3), hcl⟩
      rw [← hw]
      exact S4.wipe hio
  · intro H ⟨F', av, ad, en, k, S', ra, hcl⟩
    rw [List.drop_length] at hcl
    cases hcl
    obtain ⟨S2, no⟩ := S1.back S' k hD hv
    refine q (.ref D) F' H (k1.trans k) S2 ⟨D, av, rfl, ?_, f2, no, S'.bh D _ upd_same, ra⟩
    cases z : F' D with
    | none => rfl
    | some o => exact absurd f0 (S'.nw D (by show upd b.B D (.lst av) D ≠ none; rw [upd_same]; simp) (by rw [z]; simp))
/-- as an expression -/
theorem be_lc {own : List (Str × Nat)} {pos : Pos} (hcal : X.calm = true) (hN : X.N.Nodup) (ok : BlkOk X.N X.env.scope scope own) (hfs : ∀ x, foldedSetIterable iter X.env x = pure x)
    (h : ∀ F σ H, Stt X.K b F σ H env → ∀ Q : VK, (∀ v F' H', Same F F' → Stt X.K b F' σ H' e2 → Rz X.K b F' σ H' e2 v (.list ds) true → Q v H') → tLc (WI X tg iter) (UG X scope tg) (UT X scope ifs) (UE X scope elt) (own.map (·.2)) σ H Q) :
    BE X b (.ListComp elt [⟨tg, iter, ifs, 0⟩] scope pos) env (.list ds) true e2 := fun F σ H S Q q =>
  we_of (pe_lc hcal hN (pi_wi tg iter) ok (fun s H0 C cl fp => ⟨fun pins sh σ H v u Q I r h => h s H0 C cl fp pins sh u I r⟩) (fun s H0 C cl fp => ⟨fun pins sh σ H Q I h => h s H0 C cl fp pins sh I⟩) (fun s H0 C cl fp => ⟨fun pins sh σ H Q I h => h s H0 C cl fp pins sh I⟩) hfs) (h F σ H S Q q)
end
end Mi

set_option maxHeartbeats 2000000
/-! D15: statements. -/
namespace Mi
open PySem PySem.Spec PyProof.Rows L2

def WS (X : Cx) (st : Stmt) : TS := fun D σ H => ∀ (pins : List (Addr × Obj)) (s : Shared), Inv X pins σ H s → wpAny (model X.prog X.w) X.A (exec st X.env) (SP X pins D) X.xe s
def WSs (X : Cx) (st : List Stmt) : TS := fun D σ H => ∀ (pins : List (Addr × Obj)) (s : Shared), Inv X pins σ H s → wpAny (model X.prog X.w) X.A (execs st X.env) (SP X pins D) X.xe s
theorem ps_ws {X : Cx} (st : Stmt) : PS X st (WS X st) := ⟨fun pins s _ _ _ I h => h pins s I⟩
theorem pss_wss {X : Cx} (st : List Stmt) : PSs X st (WSs X st) := ⟨fun pins s _ _ _ I h => h pins s I⟩
theorem ws_of {X : Cx} {st : Stmt} {t : TS} (h : PS X st t) {D : Ends} {σ : L2.St} {H : Hp} (q : t D σ H) : WS X st D σ H := fun pins s I => h.run pins s σ H D I q
theorem wss_of {X : Cx} {st : List Stmt} {t : TS} (h : PSs X st t) {D : Ends} {σ : L2.St} {H : Hp} (q : t D σ H) : WSs X st D σ H := fun pins s I => h.run pins s σ H D I q
/-- what is wanted where the flow goes on -/
def Go (K : PySem.W.Frag) (b : Bs) (D : Ends) (F : Hp) (σ : L2.St) (H : Hp) (env : En) : Fl → Prop
  | .nx => D.nx σ H
  | .bk => D.bk σ H
  | .ct => D.ct σ H
  | .rt d fr => ∀ v, Rz K b F σ H env v d fr → D.rt v H
def BS (X : Cx) (b : Bs) (st : Stmt) (env : En) (fl : Fl) (env' : En) : Prop :=
  ∀ F σ H, Stt X.K b F σ H env → ∀ D : Ends, (∀ σ' F' H', Same F F' → Stt X.K b F' σ' H' env' → Go X.K b D F' σ' H' env' fl) → WS X st D σ H
def BSs (X : Cx) (b : Bs) (st : List Stmt) (env : En) (fl : Fl) (env' : En) : Prop :=
  ∀ F σ H, Stt X.K b F σ H env → ∀ D : Ends, (∀ σ' F' H', Same F F' → Stt X.K b F' σ' H' env' → Go X.K b D F' σ' H' env' fl) → WSs X st D σ H

section
variable {K : PySem.W.Frag} {b : Bs} {F : Hp} {σ : L2.St} {H : Hp} {env : En}
/-- an own list is written -/
theorem Stt.setOwn (S : Stt K b F σ H env) {i : Nat} {p : Addr} {o : HO} {s s' : Sl} (he : env[i]? = some s) (ho : s.isOwn = true) (hp : σ[i]? = some (some (.ref p))) (hf : F p = none) (hb : b.B p = none)
    (hs : SlOk K b F σ (upd H p o) i s') : Stt K b F σ (upd H p o) (env.set i s') := by
  have hi : i < env.length := by obtain ⟨x, _⟩ := List.getElem?_eq_some_iff.mp he; exact x
  have back : ∀ {j}, ownAt (env.set i s') j → ownAt env j := fun {j} h => by
    rcases ownAt_set h with ⟨rfl, _⟩ | ⟨_, h⟩
    · exact ⟨s, he, ho⟩
    · exact h
  refine ⟨fun a u e => ?_, fun a u e => ?_, S.ff, S.nw, by rw [List.length_set]; exact S.len, fun j t ht => ?_, fun j k q hj hk => S.sep j k q (back hj) (back hk), S.ios⟩
  · rw [upd_ne (fun z => by rw [z, hf] at e; cases e)]; exact S.fh a u e
  · rw [upd_ne (fun z => by rw [z, hb] at e; cases e)]; exact S.bh a u e
  · by_cases e : i = j
    · subst e
      rw [List.getElem?_set_self hi] at ht; cases ht
      exact hs
    · rw [List.getElem?_set_ne e] at ht
      have h := S.sl j t ht
      have ne : ∀ q, t.isOwn = true → σ[j]? = some (some (.ref q)) → q ≠ p := fun q to hq z => by
        subst z
        exact e (S.sep i j q ⟨s, he, ho⟩ ⟨t, ht, to⟩ hp hq)
      cases t with
      | un => trivial
      | val d => exact h
      | own ds => obtain ⟨q, vs, h1, h2, h3, h4, h5⟩ := h; exact ⟨q, vs, h1, by rw [upd_ne (ne q rfl h1)]; exact h2, h3, h4, h5⟩
      | owd ds => obtain ⟨q, vs, h1, h2, h3, h4, h5⟩ := h; exact ⟨q, vs, h1, by rw [upd_ne (ne q rfl h1)]; exact h2, h3, h4, h5⟩
      | owt ds => obtain ⟨q, vs, h1, h2, h3, h4, h5⟩ := h; exact ⟨q, vs, h1, by rw [upd_ne (ne q rfl h1)]; exact h2, h3, h4, h5⟩
      | scr ds => exact h
end

section
variable {X : Cx} {b : Bs} {env env' e1 e2 : En} {fl : Fl} {pos : Pos} {st : Stmt} {rest : List Stmt} {e : Expr} {d : PyData} {fr : Bool} {i : Nat} {x : Str} {px : Pos}
theorem bss_nil : BSs X b [] env .nx env := fun F σ H S D q => wss_of pss_nil (q σ F H (Same.refl F) S)
theorem bss_nx (h : BS X b st env .nx e1) (r : BSs X b rest e1 fl env') : BSs X b (st :: rest) env fl env' := fun F σ H S D q =>
  wss_of (pss_cons (ps_ws st) (pss_wss rest)) (h F σ H S { D with nx := WSs X rest D } fun σ' F' H' k S' => r F' σ' H' S' D fun σ2 F2 H2 k2 S2 => q σ2 F2 H2 (k.trans k2) S2)
theorem bss_end (h : BS X b st env fl env') (hn : fl ≠ .nx) : BSs X b (st :: rest) env fl env' := fun F σ H S D q =>
  wss_of (pss_cons (ps_ws st) (pss_wss rest)) (h F σ H S { D with nx := WSs X rest D } fun σ' F' H' k S' => by
    have := q σ' F' H' k S'
    cases fl with
    | nx => exact (hn rfl).elim
    | bk => exact this
    | ct => exact this
    | rt d fr => exact this)
theorem bs_pass : BS X b (.Pass pos) env .nx env := fun F σ H S D q => ws_of ps_pass (q σ F H (Same.refl F) S)
theorem bs_brk : BS X b (.Break pos) env .bk env := fun F σ H S D q => ws_of ps_break (q σ F H (Same.refl F) S)
theorem bs_cnt : BS X b (.Continue pos) env .ct env := fun F σ H S D q => ws_of ps_continue (q σ F H (Same.refl F) S)
theorem bs_doc {t : Str} {j : Nat} {p : Pos} : BS X b (.Expr (.Constant (.str t) j p) pos) env .nx env := fun F σ H S D q => ws_of ps_doc (q σ F H (Same.refl F) S)
theorem bs_exp (h : BE X b e env d fr env') (hs : swapsWith e none pos.line X.env = pure false) : BS X b (.Expr e pos) env .nx env' := fun F σ H S D q =>
  ws_of (ps_expr (pe_we e) hs) (h F σ H S _ fun v F' H' k S' _ => q σ F' H' k S')
theorem bs_retN : BS X b (.Return none pos) env (.rt .none false) env := fun F σ H S D q => ws_of ps_retN (q σ F H (Same.refl F) S .non .non)
theorem bs_ret (h : BE X b e env d fr env') : BS X b (.Return (some e) pos) env (.rt d fr) env' := fun F σ H S D q =>
  ws_of (ps_ret (pe_we e)) (h F σ H S _ fun v F' H' k S' r => q σ F' H' k S' v r)
theorem bs_if {c : Expr} {p q : List Stmt} {t : Bool} (hc : BT X b c env t e1) (h1 : t = true → BSs X b p e1 fl env') (h2 : t = false → BSs X b q e1 fl env') : BS X b (.If c p q pos) env fl env' := fun F σ H S D qq =>
  ws_of (ps_if (pt_wt c) (pss_wss p) (pss_wss q)) (hc F σ H S _ fun F' H' k S1 => by
    cases t with
    | true => exact iteT (h1 rfl F' σ H' S1 D fun σ2 F2 H2 k2 S2 => qq σ2 F2 H2 (k.trans k2) S2)
    | false => exact iteF (h2 rfl F' σ H' S1 D fun σ2 F2 H2 k2 S2 => qq σ2 F2 H2 (k.trans k2) S2))
section
variable (hN : X.N.Nodup) (hi : X.N[i]? = some x) (hio : ∀ q ∈ b.io, q.1 ≠ i)
include hN hi hio
theorem bs_asg (hx : Loc X.env.scope x) (hf : X.fn x = true ∨ X.env.scope.names.lookup x = some .local) (h : BE X b e env d fr e1) (hs : swapsWith e (some (.Name x px)) pos.line X.env = pure false) : BS X b (.Assign [.Name x px] e pos) env .nx (e1.set i (toSl fr d)) := fun F σ H S D q =>
  ws_of (ps_set hN hi hx (pe_we e) hs hf) (h F σ H S _ fun v F' H' k S' r => q _ F' H' k (S'.setZ hio r))
theorem bs_asgLc {elt tg iter : Expr} {ifs : List Expr} {scope : Scope} {own : List (Str × Nat)} {ds : List PyData} {pos' : Pos} (hcal : X.calm = true) (hxl : X.env.scope.names.lookup x = some .local)
    (hsw : swapsWith (.ListComp elt [⟨tg, iter, ifs, 0⟩] scope pos') (some (.Name x px)) pos.line X.env = pure true) (ok : BlkOk X.N X.env.scope scope own) (hfs : ∀ x, foldedSetIterable iter X.env x = pure x)
    (h : ∀ F σ H, Stt X.K b F σ H env → ∀ Q : VK, (∀ v F' H', Same F F' → Stt X.K b F' σ H' e1 → Rz X.K b F' σ H' e1 v (.list ds) true → Q v H') → tLc (WI X tg iter) (UG X scope tg) (UT X scope ifs) (UE X scope elt) (own.map (·.2)) σ H Q) :
    BS X b (.Assign [.Name x px] (.ListComp elt [⟨tg, iter, ifs, 0⟩] scope pos') pos) env .nx (e1.set i (.own ds)) := fun F σ H S D q =>
  ws_of (ps_setLc hcal hN hi hxl hsw (pi_wi tg iter) ok (fun s H0 C cl fp => ⟨fun pins sh σ H v u Q I r h => h s H0 C cl fp pins sh u I r⟩) (fun s H0 C cl fp => ⟨fun pins sh σ H Q I h => h s H0 C cl fp pins sh I⟩) (fun s H0 C cl fp => ⟨fun pins sh σ H Q I h => h s H0 C cl fp pins sh I⟩) hfs)
    (h F σ H S _ fun v F' H' k S' r => q _ F' H' k (S'.setZ (fr := true) hio r))
end
/-- return of an own list: it goes out as it is -/
theorem bs_retV (hN : X.N[i]? = some x) (hv : Vis X.env.scope x) (hd : (x == ("__debug__" : Str)) = false) (hcd : (x == ("__classdict__" : Str)) = false) {s : Sl} (he : env[i]? = some s) (hs : s.isOwn = true)
    (hdt : slD s = some d) : BS X b (.Return (some (.Name x px)) pos) env (.rt d true) (env.set i .un) := fun F σ H S D q =>
  ws_of (ps_ret (pe_var hN hv hd hcd)) (by
    have S1 : Stt X.K b F σ H (env.set i .un) := S.setEnv trivial fun z => nomatch z
    have no : ∀ p, σ[i]? = some (some (.ref p)) → ¬ OwnP (env.set i .un) σ p := fun p hp ⟨j, hj, e⟩ => by
      rcases ownAt_set hj with ⟨_, z⟩ | ⟨n, z⟩
      · cases z
      · exact n (S.sep j i p z ⟨_, he, hs⟩ e hp)
    cases s with
    | own ds =>
      obtain ⟨p, vs, h1, h2, h3, h4, h5⟩ := S.sl i _ he
      cases hdt
      exact ⟨_, h1, q σ F H (Same.refl F) S1 _ ⟨p, vs, rfl, h3, h4, no p h1, h2, h5⟩⟩
    | owd ds =>
      obtain ⟨p, vs, h1, h2, h3, h4, h5⟩ := S.sl i _ he
      cases hdt
      exact ⟨_, h1, q σ F H (Same.refl F) S1 _ ⟨p, vs, rfl, h3, h4, no p h1, h2, h5⟩⟩
    | owt ds => cases hdt
    | un => cases hs
    | val d => cases hs
    | scr d => cases hs)
/-- x.append(e) -/
theorem bs_app {apos cpos : Pos} {ds : List PyData} (hN : X.N[i]? = some x) (hv : Vis X.env.scope x) (hd : (x == ("__debug__" : Str)) = false) (hcd : (x == ("__classdict__" : Str)) = false) (h : BE X b e env d false e1)
    (he0 : ∃ ds0, env[i]? = some (.own ds0)) (he : e1[i]? = some (.own ds)) (hlen : ds.length < lim)
    (hbase : attributeBase (.Name x px) "append" X.env (eval (.Name x px) X.env) = eval (.Name x px) X.env) (hfew : ((backTo cpos (starEach [e] X.env)).all (fun x => !x.1) && (backToKw cpos (keywordEach [] X.env)).all (fun x => x.1.isSome) && decide (([e] : List Expr).length + ([] : List Keyword).length + (if ([] : List Keyword).isEmpty then 0 else 1) < 30)) = true)
    (hline : (apos.endLine == cpos.line) = true) (hs : starEach [e] X.env = (false, eval e X.env) :: starEach [] X.env) (hpl : (backTo cpos (starEach [] X.env)).any (·.1) = false) :
    BS X b (.Expr (.Call (.Attribute (.Name x px) "append" apos) [e] [] cpos) pos) env .nx (e1.set i (.own (ds ++ [d]))) := fun F σ H S D q =>
  ws_of (ps_expr (pe_bm PySem.F.plainAttrs_list PySem.F.slot_list_append PySem.F.type_list_append mt_append (pe_var hN hv hd hcd) (pa_cons (pe_we e) pa_nil hs) hbase hfew hline hs hpl) rfl) (by
    obtain ⟨ds0, he0⟩ := he0
    obtain ⟨p, vs0, h1, h2, _⟩ := S.sl i _ he0
    refine ⟨_, h1, .inl ⟨rfl, vs0, SqL.of h2⟩, h F σ H S _ fun v F' H' k S' r => ?_⟩
    obtain ⟨p', vs, k1, k2, k3, k4, k5⟩ := S'.sl i _ he
    rw [h1] at k1; cases k1
    refine ⟨p, vs, v, rfl, rfl, k2, by rw [k5.length, ← lim_eq]; exact hlen, q σ F' _ k ?_⟩
    exact S'.setOwn he rfl h1 k3 k4 ⟨p, _, h1, upd_same, k3, k4, k5.append (.cons r .nil)⟩)
/-- x.extend(e), e a list -/
theorem bs_ext {apos cpos : Pos} {ds es : List PyData} (hN : X.N[i]? = some x) (hv : Vis X.env.scope x) (hd : (x == ("__debug__" : Str)) = false) (hcd : (x == ("__classdict__" : Str)) = false) (h : BE X b e env (.list es) false e1)
    (he0 : ∃ ds0, env[i]? = some (.own ds0)) (he : e1[i]? = some (.own ds)) (hlen : ds.length + es.length ≤ lim)
    (hbase : attributeBase (.Name x px) "extend" X.env (eval (.Name x px) X.env) = eval (.Name x px) X.env) (hfew : ((backTo cpos (starEach [e] X.env)).all (fun x => !x.1) && (backToKw cpos (keywordEach [] X.env)).all (fun x => x.1.isSome) && decide (([e] : List Expr).length + ([] : List Keyword).length + (if ([] : List Keyword).isEmpty then 0 else 1) < 30)) = true)
    (hline : (apos.endLine == cpos.line) = true) (hs : starEach [e] X.env = (false, eval e X.env) :: starEach [] X.env) (hpl : (backTo cpos (starEach [] X.env)).any (·.1) = false) :
    BS X b (.Expr (.Call (.Attribute (.Name x px) "extend" apos) [e] [] cpos) pos) env .nx (e1.set i (.own (ds ++ es))) := fun F σ H S D q =>
  ws_of (ps_expr (pe_bm PySem.F.plainAttrs_list PySem.F.slot_list_extend PySem.F.type_list_extend mt_extend (pe_var hN hv hd hcd) (pa_cons (pe_we e) pa_nil hs) hbase hfew hline hs hpl) rfl) (by
    obtain ⟨ds0, he0⟩ := he0
    obtain ⟨p, vs0, h1, h2, _⟩ := S.sl i _ he0
    refine ⟨_, h1, .inl ⟨rfl, vs0, SqL.of h2⟩, h F σ H S _ fun v F' H' k S' r => ?_⟩
    obtain ⟨p', vs, k1, k2, k3, k4, k5⟩ := S'.sl i _ he
    rw [h1] at k1; cases k1
    cases r with
    | lst hq r =>
      refine ⟨p, _, vs, _, rfl, rfl, k2, S'.fh _ _ hq, by rw [k5.length, r.length, ← lim_eq]; exact hlen, q σ F' _ k ?_⟩
      exact S'.setOwn he rfl h1 k3 k4 ⟨p, _, h1, upd_same, k3, k4, k5.append r⟩)
end
end Mi

set_option maxHeartbeats 2000000
/-! D16: several targets, subscripts as targets, for, while. -/
namespace Mi
open PySem PySem.Spec PyProof.Rows L2

/-! ### displays of values, each with whether it is new -/
def isFr : PyData × Bool → Bool
  | (.list _, true) => true
  | (.dict _, true) => true
  | _ => false
def freshOf : List V → List (PyData × Bool) → List V
  | v :: vs, p :: ds => if isFr p = true then v :: freshOf vs ds else freshOf vs ds
  | _, _ => []
inductive FzL (K : PySem.W.Frag) (b : Bs) (F : Hp) (σ : L2.St) (H : Hp) (env : En) : List V → List (PyData × Bool) → Prop
  | nil : FzL K b F σ H env [] []
  | cons {v : V} {d : PyData} {fr : Bool} {vs : List V} {ds : List (PyData × Bool)} : Rz K b F σ H env v d fr → FzL K b F σ H env vs ds → (isFr (d, fr) = true → ∀ w ∈ freshOf vs ds, w ≠ v) → FzL K b F σ H env (v :: vs) ((d, fr) :: ds)
section
variable {X : Cx} {b : Bs} {env env' e1 e2 e3 : En} {fl : Fl} {pos : Pos}
/-- a value that came first, new: a later one leaves it alone -/
def keepB (b : Bs) (p : Addr) (o : HO) : Bs := ⟨upd b.B p o, b.F0, b.io, b.w⟩
theorem Stt.keepP {K : PySem.W.Frag} {F H : Hp} {σ : L2.St} (S : Stt K b F σ H env) {p : Addr} {o : HO} (h1 : F p = none) (h2 : b.B p = none) (h3 : ¬ OwnP env σ p) (h4 : H p = some o) : Stt K (keepB b p o) F σ H env := by
  refine ⟨S.fh, fun a u e => ?_, S.ff, fun a k1 k2 => ?_, S.len, fun j s hs => ?_, S.sep, S.ios⟩
  · have e : upd b.B p o a = some u := e
    by_cases z : a = p
    · rw [z, upd_same] at e; rw [z, h4]; exact e
    · rw [upd_ne z] at e; exact S.bh a u e
  · have k1 : upd b.B p o a ≠ none := k1
    by_cases z : a = p
    · rw [z] at k2; exact absurd h1 k2
    · rw [upd_ne z] at k1; exact S.nw a k1 k2
  · have h := S.sl j s hs
    have ne : ∀ q, s.isOwn = true → σ[j]? = some (some (.ref q)) → q ≠ p := fun q so hq z => h3 ⟨j, ⟨s, hs, so⟩, z ▸ hq⟩
    cases s with
    | un => trivial
    | val d => exact h
    | own ds => obtain ⟨q, vs, k1, k2, k3, k4, k5⟩ := h; exact ⟨q, vs, k1, k2, k3, by show upd b.B p o q = none; rw [upd_ne (ne q rfl k1)]; exact k4, k5⟩
    | owd ds => obtain ⟨q, vs, k1, k2, k3, k4, k5⟩ := h; exact ⟨q, vs, k1, k2, k3, by show upd b.B p o q = none; rw [upd_ne (ne q rfl k1)]; exact k4, k5⟩
    | owt ds => obtain ⟨q, vs, k1, k2, k3, k4, k5⟩ := h; exact ⟨q, vs, k1, k2, k3, by show upd b.B p o q = none; rw [upd_ne (ne q rfl k1)]; exact k4, k5⟩
    | scr ds => exact h
theorem Stt.unkeep {K : PySem.W.Frag} {F H : Hp} {σ : L2.St} {p : Addr} {o : HO} (S : Stt K (keepB b p o) F σ H env) (hb : b.B p = none) (h0 : b.F0 p = none) : Stt K b F σ H env ∧ F p = none ∧ ¬ OwnP env σ p ∧ H p = some o := by
  have bB : ∀ a u, b.B a = some u → (keepB b p o).B a = some u := fun a u e => by
    show upd b.B p o a = some u
    rw [upd_ne (fun z => by rw [z, hb] at e; cases e)]; exact e
  have bN : ∀ a, (keepB b p o).B a = none → b.B a = none := fun a e => by
    have e : upd b.B p o a = none := e
    by_cases z : a = p
    · rw [z, upd_same] at e; cases e
    · rw [upd_ne z] at e; exact e
  have fp : F p = none := by
    cases z : F p with
    | none => rfl
    | some u => exact absurd h0 (S.nw p (by show upd b.B p o p ≠ none; rw [upd_same]; simp) (by rw [z]; simp))
  refine ⟨⟨S.fh, fun a u e => S.bh a u (bB a u e), S.ff, fun a k1 k2 => ?_, S.len, fun j s hs => ?_, S.sep, S.ios⟩, fp, fun ho => ?_, S.bh p o (by show upd b.B p o p = some o; exact upd_same)⟩
  · cases z : b.B a with
    | none => exact absurd z k1
    | some u => exact S.nw a (by rw [bB a u z]; simp) k2
  · have h := S.sl j s hs
    cases s with
    | un => trivial
    | val d => exact h
    | own ds => obtain ⟨q, vs, k1, k2, k3, k4, k5⟩ := h; exact ⟨q, vs, k1, k2, k3, bN q k4, k5⟩
    | owd ds => obtain ⟨q, vs, k1, k2, k3, k4, k5⟩ := h; exact ⟨q, vs, k1, k2, k3, bN q k4, k5⟩
    | owt ds => obtain ⟨q, vs, k1, k2, k3, k4, k5⟩ := h; exact ⟨q, vs, k1, k2, k3, bN q k4, k5⟩
    | scr ds => exact h
  · have := (S.own_ref ho).2.2
    have e : upd b.B p o p = none := this
    rw [upd_same] at e; cases e
/-- what is new, by its place -/
theorem Rz.fresh {K : PySem.W.Frag} {F H : Hp} {σ : L2.St} {v : V} {d : PyData} {fr : Bool} (h : Rz K b F σ H env v d fr) :
    (isFr (d, fr) = true ∧ ∃ p o, v = .ref p ∧ F p = none ∧ b.B p = none ∧ ¬ OwnP env σ p ∧ H p = some o ∧
      ∀ (b' : Bs) (F' H' : Hp) (σ' : L2.St) (env' : En), Same F F' → F' p = none → b'.B p = none → ¬ OwnP env' σ' p → H' p = some o → Rz K b' F' σ' H' env' v d fr) ∨
    (isFr (d, fr) = false ∧ Rv K F v d ∧ ∀ (b' : Bs) (F' H' : Hp) (σ' : L2.St) (env' : En), Same F F' → Rz K b' F' σ' H' env' v d fr) := by
  cases fr with
  | false => exact .inr ⟨by cases d <;> rfl, h, fun b' F' H' σ' env' e => Rv.mono e h⟩
  | true =>
    cases d with
    | list ds => obtain ⟨p, vs, rfl, h1, h2, h3, h4, h5⟩ := h; exact .inl ⟨rfl, p, _, rfl, h1, h2, h3, h4, fun b' F' H' σ' env' e k1 k2 k3 k4 => ⟨p, vs, rfl, k1, k2, k3, k4, h5.mono e⟩⟩
    | dict ds => obtain ⟨p, vs, rfl, h1, h2, h3, h4, h5⟩ := h; exact .inl ⟨rfl, p, _, rfl, h1, h2, h3, h4, fun b' F' H' σ' env' e k1 k2 k3 k4 => ⟨p, vs, rfl, k1, k2, k3, k4, h5.mono e⟩⟩
    | none => exact .inr ⟨rfl, h, fun b' F' H' σ' env' e => Rv.mono e h⟩
    | bool x => exact .inr ⟨rfl, h, fun b' F' H' σ' env' e => Rv.mono e h⟩
    | int x => exact .inr ⟨rfl, h, fun b' F' H' σ' env' e => Rv.mono e h⟩
    | str x => exact .inr ⟨rfl, h, fun b' F' H' σ' env' e => Rv.mono e h⟩
    | tuple x => exact .inr ⟨rfl, h, fun b' F' H' σ' env' e => Rv.mono e h⟩
theorem isOwn_toSl (d : PyData) (fr : Bool) : (toSl fr d).isOwn = isFr (d, fr) := by cases fr <;> cases d <;> rfl
theorem ownP_set {K : PySem.W.Frag} {σ : L2.St} {i : Nat} {s : Sl} {v : V} {p : Addr} (h : OwnP (env.set i s) (σ.set i (some v)) p) : OwnP env σ p ∨ (s.isOwn = true ∧ v = .ref p) := by
  obtain ⟨j, hj, e⟩ := h
  rcases ownAt_set hj with ⟨rfl, o⟩ | ⟨n, o⟩
  · refine .inr ⟨o, ?_⟩
    by_cases hl : j < σ.length
    · rw [List.getElem?_set_self hl] at e; cases e; rfl
    · rw [List.getElem?_eq_none (by rw [List.length_set]; omega)] at e; cases e
  · rw [List.getElem?_set_ne (Ne.symm n)] at e
    exact .inl ⟨j, o, e⟩
def setAllσ : List Nat → List V → L2.St → L2.St
  | i :: is, v :: vs, σ => setAllσ is vs (σ.set i (some v))
  | _, _, σ => σ
theorem Stt.setAll {K : PySem.W.Frag} {F H : Hp} : ∀ {is : List Nat} {vs : List V} {ds : List (PyData × Bool)} {σ : L2.St} {env env' : En}, Stt K b F σ H env → FzL K b F σ H env vs ds → (∀ q ∈ b.io, q.1 ∉ is) → asgAll is ds env = some env' → Stt K b F (setAllσ is vs σ) H env' := fun {is} => by
  induction is with
  | nil =>
    intro vs ds σ env env' S h hio e
    cases ds with
    | nil => cases h; cases e; exact S
    | cons => cases e
  | cons i is ih =>
    intro vs ds σ env env' S h hio e
    cases ds with
    | nil => cases e
    | cons p ds =>
      cases h with
      | cons r rs nd =>
        rename_i v d fr vs
        refine ih (S.setZ (fun z hz y => hio z hz (by rw [y]; exact List.mem_cons_self)) r) ?_ (fun z hz y => hio z hz (List.mem_cons_of_mem _ y)) e
        -- the rest as it was
        have go : ∀ {ws : List V} {es : List (PyData × Bool)}, FzL K b F σ H env ws es → (isFr (d, fr) = true → ∀ w ∈ freshOf ws es, w ≠ v) → FzL K b F (σ.set i (some v)) H (env.set i (toSl fr d)) ws es := fun {ws es} h => by
          induction h with
          | nil => intro _; exact .nil
          | cons r' rs' nd' ih' =>
            rename_i w d' fr' ws es
            intro hn
            refine .cons ?_ (ih' fun z w' hw => hn z w' (by unfold freshOf; split <;> simp [hw])) nd'
            rcases r'.fresh with ⟨hf, q, o, rfl, k1, k2, k3, k4, k5⟩ | ⟨_, _, k⟩
            · refine k5 b F H _ _ (Same.refl F) k1 k2 (fun ho => ?_) k4
              rcases ownP_set (K := K) ho with ho | ⟨o1, rfl⟩
              · exact k3 ho
              · rw [isOwn_toSl] at o1
                exact hn o1 (.ref q) (by unfold freshOf; rw [if_pos hf]; exact List.mem_cons_self) rfl
            · exact k b F H _ _ (Same.refl F)
        exact go rs nd
/-- values of a display, those that are new stay so -/
def BAF (X : Cx) (b : Bs) (es : List Expr) (env : En) (ds : List (PyData × Bool)) (env' : En) : Prop :=
  ∀ F σ H, Stt X.K b F σ H env → ∀ Q : List V → Hp → Prop, (∀ vs F' H', Same F F' → Stt X.K b F' σ H' env' → FzL X.K b F' σ H' env' vs ds → Q vs H') → WA X es σ H Q
theorem baf_nil : BAF X b [] env [] env := fun F σ H S Q q => wa_of pa_nil (q [] F H (Same.refl F) S .nil)
theorem baf_cons {e : Expr} {es : List Expr} {d : PyData} {fr : Bool} {ds : List (PyData × Bool)} (h : BE X b e env d fr e1) (r : ∀ b' : Bs, (b'.io = b.io ∧ b'.w = b.w) → BAF X b' es e1 ds e2) (hs : starEach (e :: es) X.env = (false, eval e X.env) :: starEach es X.env) : BAF X b (e :: es) env ((d, fr) :: ds) e2 := fun F σ H S Q q =>
  wa_of (pa_cons (pe_we e) (pa_wa es) hs) (h F σ H S _ fun v F1 H1 k1 S1 r1 => by
    rcases r1.fresh with ⟨hf, p, o, rfl, j1, j2, j3, j4, j5⟩ | ⟨hf, _, j⟩
    · have f0 : b.F0 p = none := by
        cases z : b.F0 p with
        | none => rfl
        | some u => have := S1.ff p u z; rw [j1] at this; cases this
      refine r (keepB b p o) ⟨rfl, rfl⟩ F1 σ H1 (S1.keepP j1 j2 j3 j4) _ fun vs F2 H2 k2 S2 r2 => ?_
      obtain ⟨S3, m1, m2, m3⟩ := S2.unkeep j2 f0
      have conv : ∀ {ws : List V} {es : List (PyData × Bool)}, FzL X.K (keepB b p o) F2 σ H2 e2 ws es → FzL X.K b F2 σ H2 e2 ws es ∧ ∀ w ∈ freshOf ws es, w ≠ .ref p := fun h => by
        induction h with
        | nil => exact ⟨.nil, fun w hw => by cases hw⟩
        | cons r' rs' nd' ih' =>
          rcases r'.fresh with ⟨hf', q, o', rfl, n1, n2, n3, n4, n5⟩ | ⟨hf', _, n⟩
          · have n2' : upd b.B p o q = none := n2
            have hqp : q ≠ p := fun z => by rw [z, upd_same] at n2'; cases n2'
            rw [upd_ne hqp] at n2'
            refine ⟨.cons (n5 b F2 H2 σ e2 (Same.refl F2) n1 n2' n3 n4) ih'.1 nd', fun w hw => ?_⟩
            unfold freshOf at hw
            rw [if_pos hf'] at hw
            rcases List.mem_cons.mp hw with rfl | hw
            · exact fun z => hqp (by cases z; rfl)
            · exact ih'.2 w hw
          · refine ⟨.cons (n b F2 H2 σ e2 (Same.refl F2)) ih'.1 nd', fun w hw => ?_⟩
            unfold freshOf at hw
            rw [hf', if_neg Bool.false_ne_true] at hw
            exact ih'.2 w hw
      exact q _ F2 H2 (k1.trans k2) S3 (.cons (j5 b F2 H2 σ e2 k2 m1 j2 m2 m3) (conv r2).1 fun _ => (conv r2).2)
    · refine r b ⟨rfl, rfl⟩ F1 σ H1 S1 _ fun vs F2 H2 k2 S2 r2 => q _ F2 H2 (k1.trans k2) S2 (.cons (j b F2 H2 σ e2 k2) r2 fun z => by rw [hf] at z; cases z))
theorem bs_par {i j : Nat} {x y : Str} {a c : Expr} {px py pt : Pos} {kt k2 : Nat} {pt2 : Pos} {ds : List (PyData × Bool)} (hc : X.calm = true) (hN : X.N.Nodup) (hi : X.N[i]? = some x) (hj : X.N[j]? = some y) (hij : i ≠ j)
    (hx : X.env.scope.names.lookup x = some .local) (hy : X.env.scope.names.lookup y = some .local) (h : BAF X b [a, c] env ds e1) (he : asgAll [i, j] ds e1 = some env') (hio : ∀ q ∈ b.io, q.1 ∉ [i, j])
    (hw : swappedStores [.Tuple [.Name x px, .Name y py] kt pt] (.Tuple [a, c] k2 pt2) X.env = pure (some [x, y])) : BS X b (.Assign [.Tuple [.Name x px, .Name y py] kt pt] (.Tuple [a, c] k2 pt2) pos) env .nx env' := fun F σ H S D q =>
  ws_of (ps_par hc hN hi hj hij hx hy (pa_wa [a, c]) hw rfl) (h F σ H S _ fun vs F1 H1 k1 S1 r => by
    have S2 := Stt.setAll S1 r hio he
    cases r with
    | cons r1 r =>
      cases r with
      | cons r2 r =>
        cases r with
        | nil => exact ⟨_, _, rfl, q _ F1 H1 k1 S2⟩
        | cons => cases he
      | nil => cases he
    | nil => cases he)
theorem bs_par3 {i j l : Nat} {x y z : Str} {a c f : Expr} {px py pz pt : Pos} {kt k2 : Nat} {pt2 : Pos} {ds : List (PyData × Bool)} (hc : X.calm = true) (hN : X.N.Nodup) (hi : X.N[i]? = some x) (hj : X.N[j]? = some y) (hl : X.N[l]? = some z) (hij : i ≠ j) (hil : i ≠ l) (hjl : j ≠ l)
    (hx : X.env.scope.names.lookup x = some .local) (hy : X.env.scope.names.lookup y = some .local) (hz : X.env.scope.names.lookup z = some .local) (h : BAF X b [a, c, f] env ds e1) (he : asgAll [i, j, l] ds e1 = some env') (hio : ∀ q ∈ b.io, q.1 ∉ [i, j, l])
    (hw : swappedStores [.Tuple [.Name x px, .Name y py, .Name z pz] kt pt] (.Tuple [a, c, f] k2 pt2) X.env = pure (some [x, y, z])) : BS X b (.Assign [.Tuple [.Name x px, .Name y py, .Name z pz] kt pt] (.Tuple [a, c, f] k2 pt2) pos) env .nx env' := fun F σ H S D q =>
  ws_of (ps_par3 hc hN hi hj hl hij hil hjl hx hy hz (pa_wa [a, c, f]) hw rfl) (h F σ H S _ fun vs F1 H1 k1 S1 r => by
    have S2 := Stt.setAll S1 r hio he
    cases r with
    | cons r1 r =>
      cases r with
      | cons r2 r =>
        cases r with
        | cons r3 r =>
          cases r with
          | nil => exact ⟨_, _, _, rfl, q _ F1 H1 k1 S2⟩
          | cons => cases he
        | nil => cases he
      | nil => cases he
    | nil => cases he)

/-! ### targets of a statement: names, subscripts -/
def BGT (X : Cx) (b : Bs) (ts : List Expr) (ds : List PyData) (env env' : En) : Prop :=
  ∀ F σ H vs, Stt X.K b F σ H env → RvAll X.K F vs ds → ∀ Q : L2.St → Hp → Prop, (∀ σ' F' H', Same F F' → Stt X.K b F' σ' H' env' → Q σ' H') → WGs X ts vs σ H Q
def BG1 (X : Cx) (b : Bs) (t : Expr) (d : PyData) (env env' : En) : Prop :=
  ∀ F σ H v, Stt X.K b F σ H env → Rv X.K F v d → ∀ Q : L2.St → Hp → Prop, (∀ σ' F' H', Same F F' → Stt X.K b F' σ' H' env' → Q σ' H') → WG X t v σ H Q
theorem bgt_nil : BGT X b [] [] env env := fun F σ H vs S r Q q => by cases r; exact wgs_of pgs_nil ⟨rfl, q σ F H (Same.refl F) S⟩
theorem bgt_cons {t : Expr} {ts : List Expr} {d : PyData} {ds : List PyData} (h : BG1 X b t d env e1) (r : BGT X b ts ds e1 env') (hs : (assignEach (t :: ts) X.env).map (·.2) = assign t X.env :: (assignEach ts X.env).map (·.2)) : BGT X b (t :: ts) (d :: ds) env env' := fun F σ H vs S rv Q q => by
  cases rv with
  | cons rv rs =>
    exact wgs_of (pgs_cons (pg_wg t) (pgs_wgs ts) hs) ⟨_, _, rfl, h F σ H _ S rv _ fun σ1 F1 H1 k1 S1 => r F1 σ1 H1 _ S1 (rs.mono k1) Q fun σ2 F2 H2 k2 S2 => q σ2 F2 H2 (k1.trans k2) S2⟩
theorem bg1_nm {i : Nat} {x : Str} {d : PyData} (hN : X.N.Nodup) (hi : X.N[i]? = some x) (hx : Loc X.env.scope x) (hf : X.fn x = true ∨ X.env.scope.names.lookup x = some .local) (hio : ∀ q ∈ b.io, q.1 ≠ i) : BG1 X b (.Name x pos) d env (env.set i (.val d)) := fun F σ H v S r Q q =>
  wg_of (pg_name hN hi hx hf) (q _ F H (Same.refl F) (S.setV hio r))
theorem bg1_sb {i : Nat} {x : Str} {d kd : PyData} {ke : Expr} {px : Pos} {s s' : Sl} (hu : X.A.units + 9 < cLine) (hw : b.w = X.w) (hN : X.N[i]? = some x) (hv : Vis X.env.scope x) (hd : (x == ("__debug__" : Str)) = false) (hcd : (x == ("__classdict__" : Str)) = false)
    (h : BE X b ke env kd false e1) (h0 : ∃ s0, env[i]? = some s0 ∧ s0.isOwn = true) (h1 : e1[i]? = some s) (hp : putS s kd d = some s')
    (ha : ∀ v, assign (.Subscript (.Name x px) ke pos) X.env v = (do
      let ov ← holding [v] (eval (.Name x px) X.env)
      let iv ← holding [v, ov] (eval ke X.env)
      standAt pos
      holding [v, ov, iv] (setItem ov iv v)
      release [v, ov, iv] [])) : BG1 X b (.Subscript (.Name x px) ke pos) d env (e1.set i s') := fun F σ H v S r Q q => by
  obtain ⟨s0, g1, g2⟩ := h0
  obtain ⟨p, hp0, _⟩ := (S.sl i s0 g1).own_ref g2
  cases s with
  | own ds =>
    cases kd with
    | int j =>
      obtain ⟨j', hj, e⟩ := Option.map_eq_some_iff.mp (show (ixN ds.length j).map (fun j => Sl.own (ds.set j d)) = some s' from hp)
      subst e
      refine wg_of (pg_sub (pe_var hN hv hd hcd) (pe_we ke) set_list ha) ⟨_, hp0, h F σ H S _ fun w F1 H1 k1 S1 r1 => ?_⟩
      cases r1
      obtain ⟨p', vs, m1, m2, m3, m4, m5⟩ := S1.sl i _ h1
      rw [hp0] at m1; cases m1
      refine ⟨p, vs, j, j', rfl, rfl, m2, by rw [m5.length]; exact hj, q σ F1 _ k1 ?_⟩
      exact S1.setOwn h1 rfl hp0 m3 m4 ⟨p, _, hp0, upd_same, m3, m4, m5.set (r.mono k1) j'⟩
    | none => cases hp
    | bool _ => cases hp
    | str _ => cases hp
    | list _ => cases hp
    | tuple _ => cases hp
    | dict _ => cases hp
  | owd kvs =>
    cases hk : keyOf kd with
    | some kk =>
      have hp : (if kvs.length < lim then some (Sl.owd (putD kvs kd d)) else none) = some s' := by
        unfold putS at hp
        rw [hk] at hp
        exact hp
      split at hp
      · rename_i hlen
        cases hp
        refine wg_of (pg_sub (pe_var hN hv hd hcd) (pe_we ke) (set_dict (by omega)) ha) ⟨_, hp0, h F σ H S _ fun w F1 H1 k1 S1 r1 => ?_⟩
        obtain ⟨p', vs, m1, m2, m3, m4, m5⟩ := S1.sl i _ h1
        rw [hp0] at m1; cases m1
        have ew : w = kV kk := (RS.fz (H := H1) r1).key hk
        subst ew
        refine ⟨p, _, rfl, DPut.k m2 (by rw [m5.length, ← lim_eq]; exact hlen), q σ F1 _ k1 ?_⟩
        have rk : Rv X.K F1 (kV kk) (keyD kk) := by rw [keyOf_keyD hk]; exact r1
        have := m5.put kk rk (r.mono k1)
        rw [keyOf_keyD hk] at this
        exact S1.setOwn h1 rfl hp0 m3 m4 ⟨p, _, hp0, upd_same, m3, m4, this⟩
      · cases hp
    | none =>
      unfold putS at hp
      rw [hk] at hp
      cases kvs with
      | cons z zs => cases hp
      | nil =>
      cases hn : nkT kd with
      | none => rw [hn] at hp; cases hp
      | some nk =>
        rw [hn] at hp
        cases hp
        refine wg_of (pg_sub (pe_var hN hv hd hcd) (pe_we ke) (set_dictN hu) ha) ⟨_, hp0, h F σ H S _ fun w F1 H1 k1 S1 r1 => ?_⟩
        obtain ⟨p', vs, m1, m2, m3, m4, m5⟩ := S1.sl i _ h1
        rw [hp0] at m1; cases m1
        cases m5
        obtain ⟨_, _, es, rfl⟩ := nkT_nk hn
        have r1' : Rv X.K F1 w (.tuple es) := r1
        cases r1' with
        | tup hq hr =>
          rename_i ka ws
          refine ⟨p, [], [], nk, ka, _, F1, rfl, rfl, .inr ⟨rfl, m2⟩, S1.fh, .nil, .tup hq hr, hn, by show 0 < sizeLine; rw [← lim_eq]; decide, fun u ru => q σ F1 _ k1 ?_⟩
          exact S1.setOwn h1 rfl hp0 m3 m4 ⟨p, _, hp0, by rw [hw]; exact upd_same, m3, m4, .cons (.tup hq hr) hn ru (r.mono k1) .nil⟩
  | owt kvs =>
    obtain ⟨nk, hn, e⟩ := Option.bind_eq_some_iff.mp (show (nkT kd).bind (fun _ => if kvs.length < lim then some (Sl.owt (putD kvs kd d)) else none) = some s' from hp)
    split at e
    · rename_i hlen
      cases e
      refine wg_of (pg_sub (pe_var hN hv hd hcd) (pe_we ke) (set_dictN hu) ha) ⟨_, hp0, h F σ H S _ fun w F1 H1 k1 S1 r1 => ?_⟩
      obtain ⟨p', xs, m1, m2, m3, m4, m5⟩ := S1.sl i _ h1
      rw [hp0] at m1; cases m1
      obtain ⟨_, _, es, rfl⟩ := nkT_nk hn
      have r1' : Rv X.K F1 w (.tuple es) := r1
      cases r1' with
      | tup hq hr =>
        rename_i ka ws
        refine ⟨p, xs, kvs, nk, ka, _, F1, rfl, rfl, .inl (by rw [← hw]; exact m2), S1.fh, m5, .tup hq hr, hn, by rw [m5.length, ← lim_eq]; exact hlen, fun u ru => q σ F1 _ k1 ?_⟩
        exact S1.setOwn h1 rfl hp0 m3 m4 ⟨p, _, hp0, by rw [hw]; exact upd_same, m3, m4, RvN.put (.tup hq hr) hn ru (r.mono k1) m5⟩
    · cases e
  | un => cases hp
  | val _ => cases hp
  | scr _ => cases hp
/-- one target -/
theorem bs_put {t e : Expr} {d : PyData} (h : BE X b e env d false e1) (hg : BG1 X b t d e1 env') (hs : swapsWithSole [t] e pos.line X.env = pure false) (hw : swappedStores [t] e X.env = pure none) (h1 : (assignEach [t] X.env).map (·.2) = [assign t X.env]) : BS X b (.Assign [t] e pos) env .nx env' := fun F σ H S D q =>
  ws_of (ps_asg (pe_we e) (pg_wg t) hs hw h1) (h F σ H S _ fun v F1 H1 k1 S1 r => hg F1 σ H1 v S1 r _ fun σ2 F2 H2 k2 S2 => q σ2 F2 H2 (k1.trans k2) S2)
/-- a tuple taken apart -/
theorem bs_asgT {ts : List Expr} {e : Expr} {k : Nat} {pt : Pos} {ds : List PyData} (hc : X.calm = true) (h : BE X b e env (.tuple ds) false e1) (hg : BGT X b ts ds e1 env') (hl : ds.length = ts.length) (hn : (assignEach ts X.env).length = ts.length) (hst : (assignEach ts X.env).findIdx? (·.1) = none)
    (hs : swapsWithSole [.Tuple ts k pt] e pos.line X.env = pure false) (hw : swappedStores [.Tuple ts k pt] e X.env = pure none) : BS X b (.Assign [.Tuple ts k pt] e pos) env .nx env' := fun F σ H S D q =>
  ws_of (ps_asg (pe_we e) (pg_tup hc (pgs_wgs ts) hn hst) hs hw rfl) (h F σ H S _ fun v F1 H1 k1 S1 r => by
    cases r with
    | tup hq r => exact ⟨_, _, rfl, same_t S1.fh hq, by rw [r.length, hl], hg F1 σ H1 _ S1 r _ fun σ2 F2 H2 k2 S2 => q σ2 F2 H2 (k1.trans k2) S2⟩)

/-! ### loops -/
theorem bs_for {tg iter : Expr} {g : MG} {items : List PyData} {body : En → Option (Fl × En)} {sts : List Stmt} (hp : PassesOwn (model X.prog X.w) X.A X.env X.xe) (hc : X.calm = true) (hi : BI X b tg iter env items e1) (hg : BG X tg g) (hio : ∀ q ∈ b.io, q.1 ∉ tgsOf g)
    (hb : ∀ en fl en', body en = some (fl, en') → BSs X b sts en fl en') (hl : forL g body items e1 = some (fl, e2)) (hfs : ∀ x, foldedSetIterable iter X.env x = pure x) : BS X b (.For tg iter sts [] pos) env fl e2 := fun F σ H S D q =>
  ws_of (ps_for hp hc (pi_wi tg iter) (pg_wg tg) (pss_wss sts) hfs) (hi F σ H S _ fun J F1 H1 k1 S1 w => by
    refine for_it w (fun i σ' H' => ∃ F' en, Same F1 F' ∧ Stt X.K b F' σ' H' en ∧ forL g body (items.drop i) en = some (fl, e2)) ⟨F1, e1, Same.refl F1, S1, by rw [List.drop_zero]; exact hl⟩ ?_ ?_ ?_
    · intro i σ' H' hi ⟨F', en, k, S', _⟩
      exact k.trans S'.fh
    · intro i x σ' H' H2 hi ⟨F', en, k, S', hf⟩ ⟨d, hd, y⟩
      obtain ⟨F2, k2, S2, rx⟩ : ∃ F2, Same F' F2 ∧ Stt X.K b F2 σ' H2 en ∧ Rv X.K F2 x d := by
        rcases y with ⟨rfl, rx⟩ | ⟨T, y, z, dy, dz, rfl, hT, rfl, ry, rz, rfl⟩
        · exact ⟨F', Same.refl F', S', rx.mono k⟩
        · obtain ⟨j1, j2, j3⟩ := S'.mkT hT (.cons (ry.mono k) (.cons (rz.mono k) .nil))
          exact ⟨_, j1, j2, j3⟩
      have hdrop : items.drop i = d :: items.drop (i + 1) := by
        obtain ⟨h1, h2⟩ := List.getElem?_eq_some_iff.mp hd
        rw [List.drop_eq_getElem_cons h1, h2]
      rw [hdrop] at hf
      obtain ⟨env1, hb1, hf⟩ := Option.bind_eq_some_iff.mp (show (bindT g d en).bind _ = _ from hf)
      obtain ⟨⟨fl2, en2⟩, hb2, hf⟩ := Option.bind_eq_some_iff.mp hf
      refine hg b F2 σ' H2 x d en env1 hio S2 rx hb1 _ fun σ3 S3 _ _ => ?_
      refine hb env1 fl2 en2 hb2 F2 σ3 H2 S3 _ fun σ4 F4 H4 k4 S4 => ?_
      cases fl2 with
      | nx => exact ⟨F4, en2, k.trans (k2.trans k4), S4, hf⟩
      | ct => exact ⟨F4, en2, k.trans (k2.trans k4), S4, hf⟩
      | bk => cases hf; exact q σ4 F4 H4 (k1.trans (k.trans (k2.trans k4))) S4
      | rt d fr => cases hf; exact q σ4 F4 H4 (k1.trans (k.trans (k2.trans k4))) S4
    · intro σ' H' ⟨F', en, k, S', hf⟩
      rw [List.drop_length] at hf
      cases hf
      exact q σ' F' H' (k1.trans k) S')
theorem bs_while {c : Expr} {cf : En → Option (Bool × En)} {body : En → Option (Fl × En)} {sts : List Stmt} {n : Nat} (hp : PassesOwn (model X.prog X.w) X.A X.env X.xe) (hcf : ∀ en t en', cf en = some (t, en') → BT X b c en t en')
    (hb : ∀ en fl en', body en = some (fl, en') → BSs X b sts en fl en') (hl : whlL cf body n env = some (fl, e2)) : BS X b (.While c sts [] pos) env fl e2 := fun F σ H S D q =>
  ws_of (ps_while hp (pt_wt c) (pss_wss sts)) (by
    refine ⟨fun m σ' H' => ∃ F' en, Same F F' ∧ Stt X.K b F' σ' H' en ∧ whlL cf body m en = some (fl, e2), ⟨n, F, env, Same.refl F, S, hl⟩, ?_⟩
    rintro m σ' H' ⟨F', en, k, S', hw⟩
    cases m with
    | zero => cases hw
    | succ m =>
      obtain ⟨⟨t, en1⟩, hc1, hw⟩ := Option.bind_eq_some_iff.mp (show (cf en).bind _ = _ from hw)
      refine hcf en t en1 hc1 F' σ' H' S' _ fun F1 H1 k1 S1 => ?_
      cases t with
      | false => rw [if_neg Bool.false_ne_true] at hw ⊢; cases hw; exact q σ' F1 H1 (k.trans k1) S1
      | true =>
        rw [if_pos rfl] at hw ⊢
        obtain ⟨⟨fl2, en2⟩, hb2, hw⟩ := Option.bind_eq_some_iff.mp hw
        refine ⟨fun σ' H' => ∃ F' en, Same F F' ∧ Stt X.K b F' σ' H' en ∧ whlL cf body m en = some (fl, e2), fun _ _ h => ⟨m, Nat.lt_succ_self m, h⟩, ?_⟩
        refine hb en1 fl2 en2 hb2 F1 σ' H1 S1 _ fun σ4 F4 H4 k4 S4 => ?_
        cases fl2 with
        | nx => exact ⟨F4, en2, k.trans (k1.trans k4), S4, hw⟩
        | ct => exact ⟨F4, en2, k.trans (k1.trans k4), S4, hw⟩
        | bk => cases hw; exact q σ4 F4 H4 (k.trans (k1.trans k4)) S4
        | rt d fr => cases hw; exact q σ4 F4 H4 (k.trans (k1.trans k4)) S4)
end
end Mi

set_option maxHeartbeats 2000000
/-! D17: enumerate of tuples; zip of lists and tuples. -/
namespace Mi
open PySem PySem.Spec PyProof.Rows L2

section
variable {prog : Program} {w : World} {A : Around} {E : Value → Shared → Prop} {s : Shared}
theorem meets_enum_tup (l : Addr) (items : Array Value) :
    Meets (Builtin.«enumerate.__new__» ⟨[.type "enumerate", .ref l], []⟩) (fun _ R s => s.heap.IsTuple l items ∧
      R (.ok (.ret (.ref (s.heap.push { cls := .type "tuple_iterator", data := .fields #[.ref l, .int 0 0] }).objs.size)))
        { s with heap := (s.heap.push { cls := .type "tuple_iterator", data := .fields #[.ref l, .int 0 0] }).push { cls := .type "enumerate", data := .fields #[.none, .bool false, .ref s.heap.objs.size, rawInt 0, .none, .none] } }) :=
  .of_wp fun prog w A R s h => by
    obtain ⟨hp, g, d, tk, os⟩ := s; obtain ⟨hl, h⟩ := h
    have hsub := sub_enumerate
    have hL : Heap.IsTuple (Shared.heap ⟨hp, g, d, tk, os⟩) l items := hl
    obtain ⟨ol, hol, _⟩ := id hl
    wp_walk using PySem.AutoSeq1.wpAny_loadPart' hol
    refine wpAny_stack_any fun st => wpAny_pure ?_
    split
    · rename_i c _ _ _ _ _
      cases (c == Value.type "enumerate")
      · wp_walk using PySem.AutoSeq1.wpAny_loadPart' hol, wpAny_pyIter_tuple hL
        exact ⟨_, rfl, h⟩
      · wp_walk using PySem.AutoSeq1.wpAny_loadPart' hol, wpAny_pyIter_tuple hL
        exact ⟨_, rfl, h⟩
    · wp_walk using PySem.AutoSeq1.wpAny_loadPart' hol, wpAny_pyIter_tuple hL
      exact ⟨_, rfl, h⟩
theorem call_enum_tup {l : Addr} {items : Array Value} {Q : Value → Shared → Prop} (hL : s.heap.IsTuple l items)
    (h : ∀ h', IsEnum h' (s.heap.objs.size + 1) s.heap.objs.size 0 .none → h'.IsTupleIter s.heap.objs.size l 0 → h'.objs.size = s.heap.objs.size + 2 →
      (∀ b o, s.heap.get? b = some o → h'.get? b = some o) → Q (.ref (s.heap.objs.size + 1)) { s with heap := h' }) :
    wpAny (model prog w) A (call (.type "enumerate") [.ref l]) Q E s := by
  refine callType_new PySem.F.called_enumerate (by decide) (PySem.F.typeCall_enumerate_1 _) (PySem.F.newCall_enumerate_1 _) (fun obj => PySem.F.args_object_init_2 obj _) PySem.F.entry_enumerate_new
    (meets_enum_tup l items) ⟨hL, ?_⟩
  have hz : (s.heap.push { cls := .type "tuple_iterator", data := .fields #[.ref l, .int 0 0] }).objs.size = s.heap.objs.size + 1 := Heap.size_push ..
  show _ ∧ _
  rw [hz]
  have he : IsEnum ((s.heap.push { cls := .type "tuple_iterator", data := .fields #[.ref l, .int 0 0] }).push
      { cls := .type "enumerate", data := .fields #[.none, .bool false, .ref s.heap.objs.size, rawInt 0, .none, .none] }) (s.heap.objs.size + 1) s.heap.objs.size 0 .none := by
    have := Heap.get?_push_size (s.heap.push { cls := .type "tuple_iterator", data := .fields #[.ref l, .int 0 0] })
      (o := { cls := .type "enumerate", data := .fields #[.none, .bool false, .ref s.heap.objs.size, rawInt 0, .none, .none] }) rfl
    rw [hz] at this; exact this
  refine ⟨⟨_, he, rfl⟩, h _ he ⟨_, Heap.get?_push_of_some _ (Heap.get?_push_size _ rfl), rfl, rfl⟩ (by rw [Heap.size_push, hz]) fun b o x => Heap.get?_push_of_some _ (Heap.get?_push_of_some _ x)⟩
theorem draws_tup {it l : Addr} (hh : A.handled = none) (hne : l ≠ it) (items : Array Value) : Draws prog w A it [it, l] items.size (fun i v => items[i]? = some v) (fun i h => h.IsTupleIter it l i ∧ h.IsTuple l items) where
  live := fun i h st => let ⟨o, e, _⟩ := st.1; ⟨o, e⟩
  frame := fun i h h' st k => ⟨st.1.at fun o e => k it (by simp) o e, let ⟨o, e, r⟩ := st.2; ⟨o, k l (by simp) o e, r⟩⟩
  item := fun i s Q E hi st hQ => RZ.nextOf_tuple_item st.1 st.2 (x := items[i]) (by simp [hi]) fun h' h1 sb => by
    have := hQ items[i] h' s.toks (by simp [hi]) ⟨h1, let ⟨o, e, r⟩ := st.2; ⟨o, (sb.2 l hne).trans e, r⟩⟩ sb
    exact this
  done := fun s Q E st hE => RZ.nextOf_tuple_end hh st.1 st.2 (by simp) fun h' e eb he => hE h' e eb he
end

/-- a tuple's items, each in a new pair with its number -/
def IteT (K : PySem.W.Frag) (a : Addr) : It :=
  ⟨fun i H => ∃ (xs : List V) (x : V), SqT K H a xs ∧ xs[i]? = some x, fun i H v H' => ∃ T x, v = .ref T ∧ H T = none ∧ H' = upd H T (.tup [.int (i : Nat), x]) ∧ ∀ xs, SqT K H a xs → xs[i]? = some x, fun i H => ∃ xs : List V, SqT K H a xs ∧ i = xs.length⟩
theorem turn_enumT {P : Program} {w : World} {K : PySem.W.Frag} {elts : List Expr} {kk : Nat} {tpos : Pos} (a e it : Addr) :
    Turn P w K (.Tuple elts kk tpos) (IteT K a) [e, it] e (fun i h => (∃ old, IsEnum h e it ((i : Nat) : Int) old) ∧ h.IsTupleIter it a i ∧ e ≠ it ∧ a ≠ it ∧ a ≠ e) where
  mem := by simp
  obj := fun i h st b hb => by
    obtain ⟨⟨old, he⟩, ⟨o, ho, hc, hd⟩, _⟩ := st
    have e' : b = e ∨ b = it := by simpa using hb
    rcases e' with z | z
    · rw [z]; exact ⟨_, he, fun v q => nomatch q⟩
    · rw [z]; exact ⟨o, ho, fun v q => by rw [hd] at q; cases q⟩
  keep := fun i h h' st k => let ⟨⟨old, he⟩, hi, hne⟩ := st; ⟨⟨old, k e (by simp) _ he⟩, hi.at fun o q => k it (by simp) o q, hne⟩
  item := by
    intro X hP hw hK hc i pins s σ H E I hf st hg
    subst hP hw hK
    obtain ⟨⟨old, he⟩, hit, hne, hai, hae⟩ := st
    obtain ⟨xs, x, hq, hx⟩ := hg
    obtain ⟨its, rv, p, hz⟩ := I.tuple hq
    obtain ⟨u, hu, ru⟩ := rv.get hx
    have hel : e < s.heap.objs.size := Heap.lt_size he
    have hil : it < s.heap.objs.size := by obtain ⟨_, q, _⟩ := hit; exact Heap.lt_size q
    have hlt : i < its.toArray.size := by
      obtain ⟨q, _⟩ := List.getElem?_eq_some_iff.mp hu
      simpa using q
    refine wpAny_pyNext_enum_itemD (draws_tup (prog := X.prog) (w := X.w) (A := X.A.in1) (show X.A.in1.handled = none from I.ok.hd hc) hai its.toArray) he ⟨hit, (show s.heap.IsTuple a its.toArray from p)⟩ hlt hne (by simp [hne, Ne.symm hae]) fun y h' tk hy ho st' hT hsz hk => ?_
    obtain rfl : y = u := by
      have hy' : its[i]? = some y := by simpa using hy
      rw [hu] at hy'; cases hy'; rfl
    refine ⟨_, rfl, wpAny_letOwnedTupleGo_enum (s := { s with heap := h', toks := tk + 1 }) ho fun h'' he' sb => ?_⟩
    have hT2 : h''.get? s.heap.objs.size = some { cls := .type "tuple", data := .seq #[.int i tk, y] } := (sb.2 _ (Nat.ne_of_gt hel)).trans hT
    have new : ObjOk X.prog X.w (upd H s.heap.objs.size (.tup [.int (i : Nat), x])) h'' s.heap.objs.size (.tup [.int (i : Nat), x]) :=
      ⟨by show 2 ≤ sizeLine; decide, [.int i tk, y], .cons ⟨_, rfl⟩ (.cons ru .nil), ⟨_, hT2, rfl, _, rfl⟩⟩
    have I1 : Inv X pins σ (upd H s.heap.objs.size (.tup [.int (i : Nat), x])) { s with heap := h'', toks := tk + 1 } :=
      I.turnedNew (ch := [e, it]) (fun b ob hb q => (sb.2 b (fun z => hb (by simp [z]))).trans (hk b ob (fun z => hb (by simp [z])) (fun z => hb (by simp [z])) q)) hf (Nat.le_refl _) new
    refine ⟨.ref s.heap.objs.size, _, I1, rfl, ⟨_, x, rfl, I.hok.fresh (Nat.le_refl _), rfl, fun ys hy => by rw [I.tuple_inj hy hq]; exact hx⟩, ⟨⟨y, ?_⟩, st'.1.at fun o q => (sb.2 it (Ne.symm hne)).trans q, hne, hai, hae⟩, fun b hb => ?_⟩
    · have e1 : ((i + 1 : Nat) : Int) = (i : Int) + 1 := by omega
      rw [e1]; exact he'
    · have hb' : b < s.heap.objs.size := by
        have e' : b = e ∨ b = it := by simpa using hb
        rcases e' with z | z
        · rw [z]; exact hel
        · rw [z]; exact hil
      rw [upd_ne (Nat.ne_of_lt hb')]
      exact (hf b hb).1
  done := by
    intro X hP hw hK hc i pins s σ H E I hf st hg
    subst hP hw hK
    obtain ⟨⟨old, he⟩, hit, hne, hai, hae⟩ := st
    obtain ⟨xs, hq, hx⟩ := hg
    obtain ⟨its, rv, p, hz⟩ := I.tuple hq
    obtain ⟨f0, f1, f2, f3, f4, f5⟩ := hf it (by simp)
    have hl : i = its.toArray.size := by rw [hx, rv.length]; simp
    subst hl
    exact wpAny_pyNext_enum_endD (draws_tup (prog := X.prog) (w := X.w) (A := X.A.in1) (show X.A.in1.handled = none from I.ok.hd hc) hai its.toArray) he ⟨hit, (show s.heap.IsTuple a its.toArray from p)⟩ fun h' eb => ⟨rfl, I.turned (t' := s.toks) (fun b o hb q => eb b o hb q) f0 f1 f3 f4 f5⟩
  self := fun A i s Q E st h => let ⟨⟨_, he⟩, _⟩ := st; wpAny_pyIter_enum he h
def iEnumT (K : PySem.W.Frag) (ta : TA) : TI := fun σ H R => ta σ H fun vs H1 => ∃ a xs, vs = [.ref a] ∧ SqT K H1 a xs ∧ R (IteT K a) H1
theorem pi_enumT {X : Cx} {e : Expr} {ta : TA} {p pos tpos : Pos} {elts : List Expr} {kk : Nat} (hg : Gl X "enumerate") (hm : X.mg "enumerate" = none) (ha : PA X [e] ta) (hs : starEach [e] X.env = [(false, eval e X.env)]) :
    PI X (.Tuple elts kk tpos) (.Call (.Name "enumerate" p) [e] [] pos) (iEnumT X.K ta) := by
  refine ⟨fun pins s σ H R I h => ?_⟩
  refine Call_ (ld_blt I hg hm boot_enumerate (PyProof.Rows.callWith_type1 (thn (ha.run pos pins s σ H _ I h) fun us s1 ⟨vs, H1, I1, r1, q1⟩ => ?_) hs rfl))
  obtain ⟨a, xs, ex, hq, q⟩ := q1
  subst ex
  cases r1 with
  | cons r rr =>
    cases rr
    cases r
    obtain ⟨its, rv, p', hz⟩ := I1.tuple hq
    have hal : a < s1.heap.objs.size := by obtain ⟨o, ho, _⟩ := p'; exact Heap.lt_size ho
    refine call_enum_tup (show s1.heap.IsTuple a its.toArray from p') fun h' he hit hsz hk => wpAny_pyIter_enum he ?_
    have I2 : Inv X pins σ H1 { s1 with heap := h' } := I1.kept (t' := s1.toks) hk
    refine ⟨s1.heap.objs.size + 1, [s1.heap.objs.size + 1, s1.heap.objs.size], _, _, H1, rfl, I2, turn_enumT a (s1.heap.objs.size + 1) s1.heap.objs.size, ⟨⟨.none, he⟩, hit, Nat.succ_ne_self _, Nat.ne_of_lt hal, Nat.ne_of_lt (Nat.lt_succ_of_lt hal)⟩, fun b hb => ?_, q⟩
    have e' : b = s1.heap.objs.size + 1 ∨ b = s1.heap.objs.size := by simpa using hb
    have hle : s1.heap.objs.size ≤ b := by
      rcases e' with z | z
      · rw [z]; exact Nat.le_add_right _ _
      · rw [z]; exact Nat.le_refl _
    exact I1.fpOk hle (I1.hok.fresh hle)
theorem walk_enumT {K : PySem.W.Frag} {a : Addr} {xs : List V} : Walk (IteT K a) xs.length (fun H => SqT K H a xs) (YPair (fun i => some (.int (i : Nat))) (fun i => xs[i]?)) := by
  refine ⟨fun i _ hi q => ⟨xs, xs[i], q, by simp [hi]⟩, fun _ q => ⟨xs, q, rfl⟩, fun i H v H' _ q y => ?_⟩
  obtain ⟨T, x, h1, h2, h3, h4⟩ := y
  exact ⟨T, .int (i : Nat), x, h1, h2, h3, rfl, h4 xs q⟩
end Mi

set_option maxHeartbeats 2000000
/-! D18a: a tuple turned about. -/
namespace Mi
open PySem PySem.Spec PyProof.Rows L2
section
variable {prog : Program} {w : World} {A : Around} {E : Value → Shared → Prop} {s : Shared}
theorem rev_pick (items : Array Value) : ((List.range items.size).filterMap fun (m : Nat) => items[(((items.size : Int) - 1) + (m : Int) * (-1)).toNat]?).toArray = items.toList.reverse.toArray := by
  have e : (List.range items.size).filterMap (fun (m : Nat) => items[(((items.size : Int) - 1) + (m : Int) * (-1)).toNat]?) = ((List.range items.size).map fun k => items.size - 1 - k).filterMap (items[·]?) := by
    rw [List.filterMap_map]
    have : ∀ l : List Nat, (∀ m ∈ l, m < items.size) → l.filterMap (fun (m : Nat) => items[(((items.size : Int) - 1) + (m : Int) * (-1)).toNat]?) = l.filterMap ((fun x => items[x]?) ∘ fun k => items.size - 1 - k) := fun l hl => by
      induction l with
      | nil => rfl
      | cons m l ih =>
        have hm := hl m List.mem_cons_self
        have e1 : (((items.size : Int) - 1) + (m : Int) * (-1)).toNat = items.size - 1 - m := by omega
        rw [List.filterMap_cons, List.filterMap_cons, ih fun x hx => hl x (List.mem_cons_of_mem _ hx), e1]
        rfl
    exact this _ fun m hm => List.mem_range.mp hm
  rw [e, PySem.W.krv_range, List.filterMap_reverse, PySem.W.krv_all]
theorem getItem_tuple_rev {t sl : Addr} {items : Array Value} {vs : Value} {Q : Value → Shared → Prop} (ht : IsTup s.heap t items) (hs : s.heap.IsSliceOf sl .none .none vs) (ps : IsPart vs (some (-1)))
    (h : Q (.ref s.heap.objs.size) { s with heap := s.heap.push { cls := .type "tuple", data := .seq items.toList.reverse.toArray } }) (hsz : items.size ≤ sizeLine) : wpAny (model prog w) A (getItem (.ref t) (.ref sl)) Q E s := by
  obtain ⟨os, hos, hcs, hds⟩ := id hs
  have hTs : s.TypeIs (.ref sl) "slice" := ⟨os, hos, hcs⟩
  unfold getItem
  try with_reducible refine wpAny_holding ?_
  first | refine wpAny_bind (wpAny_pure ?_) | skip
  refine wpAny_bind (wpAny_sequenceKey ht.typeIs (by decide) ?_)
  refine wpAny_bind (wpAny_callSpecial?_slot (name := Str.ofString "__getitem__") ht.typeIs PyProof.Rows.slot_tuple_getitem
    (wpAny_call_entry PyProof.Rows.slot_tuple_getitem ht.typeIs entry_tuple_getitem ?_ (args_tuple_getitem _ _)))
  show wpAny _ _ (Builtin.Tuple.tupleItemsOf (.ref t) >>= _) _ _ s
  refine wpAny_bind (tupleItemsOf_ ht ?_)
  refine wpAny_bind (wpAny_typeOf hTs ?_)
  rw [if_pos (by decide)]
  have hn : Builtin.Slice.sliceAdjust none none (-1) (items.size : Int) = ((items.size : Int) - 1, -1) := rfl
  have hp : Builtin.Slice.slicePlaces ((items.size : Int) - 1) (-1) (-1) = items.size := by
    unfold Builtin.Slice.slicePlaces
    have h1 : ¬ ((-1 : Int) > 0) := by decide
    simp only [h1, if_false]
    by_cases h0 : ((items.size : Int) - 1) > -1
    · rw [if_pos h0, show (- -1 : Int) = 1 by decide, Int.ediv_one]; omega
    · rw [if_neg h0]; omega
  have app : ∀ {Q : Int × Int × Nat → Shared → Prop}, Q (((items.size : Int) - 1), -1, items.size) s → wpAny (model prog w) A.in1 (Builtin.Slice.sliceApplied (.ref sl) (pure (items.size : Int))) Q E s := fun {Q} q => by
    unfold Builtin.Slice.sliceApplied Builtin.Slice.sliceFields
    refine wpAny_bind (wpAny_bind (wpAny_field hos hds (x := .none) rfl (wpAny_bind (wpAny_field hos hds (x := .none) rfl (wpAny_bind (wpAny_field hos hds (x := vs) rfl (wpAny_pure ?_)))))))
    refine wpAny_bind (HT.slicePart_ ps ?_)
    show wpAny _ _ (if ((-1 : Int) == 0) = true then _ else _) _ _ s
    rw [if_neg (by decide)]
    refine wpAny_bind (slicePart_none (wpAny_bind (slicePart_none (wpAny_bind (wpAny_pure ?_)))))
    show wpAny _ _ (match Builtin.Slice.sliceAdjust none none (-1) (items.size : Int) with | (lo, hi) => pure (lo, (-1 : Int), Builtin.Slice.slicePlaces lo hi (-1))) _ _ s
    rw [hn]
    show wpAny _ _ (pure ((items.size : Int) - 1, (-1 : Int), Builtin.Slice.slicePlaces ((items.size : Int) - 1) (-1) (-1))) _ _ s
    rw [hp]
    exact wpAny_pure q
  refine wpAny_bind (app ?_)
  show wpAny _ _ (if (((items.size : Int) - 1) == 0 && (-1 : Int) == 1 && items.size == items.size) = true then _ else _) _ _ s
  have h2 : ((-1 : Int) == 1) = false := by decide
  rw [if_neg (by rw [h2, Bool.and_false, Bool.false_and]; exact Bool.false_ne_true), rev_pick]
  have hz : sizeOk (.seq items.toList.reverse.toArray) := by
    show items.toList.reverse.toArray.size ≤ sizeLine
    rw [List.size_toArray, List.length_reverse, Array.length_toList]; exact hsz
  first
    | exact wpAny_bind (m := Builtin.Tuple.tupleExact _) (wpAny_newObj_type (wpAny_pure ⟨_, rfl, wpAny_pure h⟩) hz)
    | exact wpAny_bind (m := Builtin.Tuple.tupleExact _) (wpAny_newObj_type (wpAny_bind (wpAny_pure (wpAny_pure ⟨_, rfl, wpAny_pure h⟩))) hz)
    | exact wpAny_bind (wpAny_bind (m := Builtin.Tuple.tupleExact _) (wpAny_newObj_type (wpAny_pure (wpAny_pure ⟨_, rfl, wpAny_pure h⟩)) hz))
    | exact wpAny_bind (wpAny_bind (m := Builtin.Tuple.tupleExact _) (wpAny_newObj_type (wpAny_pure ⟨_, rfl, wpAny_pure h⟩) hz))
end
section
variable {X : Cx} {b : Bs} {e : Expr} {env e1 : En}
def tRevT (K : PySem.W.Frag) (te : TE) : TE := fun σ H Q => te σ H fun x H1 => ∃ a xs, x = .ref a ∧ SqT K H1 a xs ∧ ∀ p, H1 p = none → Q (.ref p) (upd H1 p (.tup xs.reverse))
theorem pe_revT {te : TE} {k : Nat} {p1 p2 p3 pos : Pos} (he : PE X e te) : PE X (.Subscript e (.Slice none none (some (.UnaryOp .USub (.Constant (.int 1) k p1) p2)) p3) pos) (tRevT X.K te) := by
  refine ⟨fun pins s σ H Q I h => ?_⟩
  refine Subscript_ (thn (he.run pins s σ H _ I h) fun v s1 ⟨x, H1, I1, r1, q1⟩ => ?_)
  obtain ⟨a, xs, ex, hx, q⟩ := q1
  subst ex
  cases r1
  have hst : PO X (some (.UnaryOp .USub (.Constant (.int 1) k p1) p2)) (tPart (tUn (rU fun i => .int (-i)) (tC (.int 1)))) := po_some (pe_un un_neg pe_int)
  refine wpAny_Slice (thn (po_none.run pins s1 σ H1 (fun o H2 => o = none ∧ H2 = H1) I1 ⟨rfl, rfl⟩) fun vl s2 ⟨l, H2, I2, pl, el, e2⟩ => ?_)
  subst el e2
  refine thn (po_none.run pins s2 σ H2 (fun o H3 => o = none ∧ H3 = H2) I2 ⟨rfl, rfl⟩) fun vu s3 ⟨u, H3, I3, pu, eu, e3⟩ => ?_
  subst eu e3
  refine thn (hst.run pins s3 σ H3 (fun o H4 => o = some (-1) ∧ H4 = H3) I3 ⟨1, rfl, -1, rfl, rfl, rfl⟩) fun vs s4 ⟨o, H4, I4, ps, eo, e4⟩ => ?_
  subst eo e4
  cases pl
  cases pu
  have I5 : Inv X pins σ H4 { s4 with heap := s4.heap.push { cls := .type "slice", data := .fields #[.none, .none, vs] } } := I4.kept (t' := s4.toks) fun b ob q => Heap.get?_push_of_some _ q
  obtain ⟨its, r, ht, hz⟩ := I5.tuple hx
  have hlen := r.length
  show wpAny (model X.prog X.w) X.A (subscriptTail e (.Slice none none (some (.UnaryOp .USub (.Constant (.int 1) k p1) p2)) p3) (.ref a) (.ref s4.heap.objs.size)) (EP X pins σ Q) X.xe { s4 with heap := s4.heap.push { cls := .type "slice", data := .fields #[.none, .none, vs] } }
  refine tail_any (ops := [.ref a, .ref s4.heap.objs.size]) ht.typeIs (PyProof.Rows.slot_tuple_getitem.lookup) ?_ (by with_unfolding_all rfl)
  refine getItem_tuple_rev ht (Heap.IsSliceOf.new _ .none .none vs) ps ?_ (by rw [List.size_toArray]; omega)
  refine ⟨.ref _, _, I5.laid (t' := s4.toks) (o := .tup xs.reverse) (fun b ob q => Heap.get?_push_of_some _ q) (Nat.le_refl _) ?_, rfl, q _ (I5.hok.fresh (Nat.le_refl _))⟩
  exact ⟨by rw [List.length_reverse]; exact hz, _, r.reverse, IsTup.new _ _⟩
theorem be_revT {k : Nat} {p1 p2 p3 pos : Pos} {ds : List PyData} {oo : Op} (ho : BO X b e env oo e1) (rx : rdO e1 oo = some (.tuple ds)) : BE X b (.Subscript e (.Slice none none (some (.UnaryOp .USub (.Constant (.int 1) k p1) p2)) p3) pos) env (.tuple ds.reverse) false e1 := fun F σ H S Q q =>
  we_of (pe_revT (pe_we e)) (ho F σ H S _ fun va F1 H1 k1 S1 o1 => by
    obtain ⟨p, vs, rfl, g1, g2⟩ := (S1.rd o1 rx).seqT S1.fh
    refine ⟨p, vs, rfl, g1, fun l hl => ?_⟩
    obtain ⟨j1, j2, j3⟩ := S1.mkT hl g2.reverse
    exact q _ _ _ (k1.trans j1) j2 j3)
end
end Mi

set_option maxHeartbeats 4000000
/-! D18b: len(set(texts)). -/
namespace Mi
open PySem PySem.Spec PyProof.Rows L2
def metS (xs : List Str) (i : Nat) : List Str := (xs.take i).foldl dedS []
theorem metS_succ {xs : List Str} {i : Nat} (h : i < xs.length) : metS xs (i + 1) = dedS (metS xs i) (xs.getD i Str.empty) := by
  unfold metS
  rw [List.take_succ, List.foldl_append, List.getElem?_eq_getElem h]
  simp [List.getD, List.getElem?_eq_getElem h]
theorem metS_le (xs : List Str) : ∀ i, (metS xs i).length ≤ i
  | 0 => by unfold metS; simp
  | i + 1 => by
    by_cases h : i < xs.length
    · rw [metS_succ h]
      unfold dedS
      have := metS_le xs i
      split
      · omega
      · rw [List.length_append, List.length_singleton]; omega
    · have e : metS xs (i + 1) = metS xs i := by
        unfold metS
        rw [List.take_of_length_le (by omega), List.take_of_length_le (by omega)]
      rw [e]
      have := metS_le xs i
      omega
theorem dedS_any (σ : List Str) (v k : Str) : (dedS σ v).any (· == k) = (σ.any (· == k) || decide (k = v)) := by
  unfold dedS
  by_cases h : σ.any (· == v) = true
  · rw [if_pos h]
    by_cases e : k = v
    · subst e; rw [h]; simp
    · simp [e]
  · rw [if_neg h, List.any_append]
    by_cases e : k = v
    · subst e; simp
    · have hb : (v == k) = false := by simpa [beq_iff_eq] using (fun h' : v = k => e h'.symm)
      simp [hb, e]
theorem dedS_length (σ : List Str) (v : Str) : (dedS σ v).length = if σ.any (· == v) then σ.length else σ.length + 1 := by
  unfold dedS; split <;> simp
theorem strs_get : ∀ {us : List Value} {xs : List Str}, StrsAre us xs → ∀ (i : Nat) (v : Value), us[i]? = some v → ∃ t, v = .str (xs.getD i Str.empty) t
  | _, _, .nil, i, v, h => by simp at h
  | _, _, .cons n t hr, 0, v, h => by simp at h; exact ⟨t, by rw [← h] <;> rfl⟩
  | _, _, .cons n t hr, i + 1, v, h => by
    simp only [List.getElem?_cons_succ] at h
    obtain ⟨t', e⟩ := strs_get hr i v h
    exact ⟨t', by rw [e] <;> rfl⟩
section
variable {prog : Program} {w : World} {A : Around} {R : Result → Shared → Prop} {I : Addr} {fp wr : List Addr} {Gn : Array GenState → Array GenState → Prop} {n : Nat} {P : Nat → Value → Prop} {St : Nat → Shared → Prop}
theorem loop_set (W : WalksS prog w A.in1 I fp wr Gn n P St) (S : Addr) (hSf : S ∉ fp) (xs : List Str) (hsz : xs.length = n) (hb : n + 1 < scanBound) (hval : ∀ i v, P i v → ∃ t, v = .str (xs.getD i Str.empty) t) :
    ∀ (k i : Nat) (s : Shared), n - i = k → i ≤ n → St i s → s.heap.SetOf (PySem.strKind prog w) S (fun k' => (metS xs i).any (· == k')) (metS xs i).length →
      (∀ s', Moved (S :: wr) Gn s s' → s'.heap.SetOf (PySem.strKind prog w) S (fun k' => (metS xs n).any (· == k')) (metS xs n).length → R (.ok (.ret .none)) s') →
      codeAny (model prog w) A (.builtin "set.update.loop" ⟨[.ref S, .ref I], []⟩) R s := by
  have hSw : S ∉ wr := fun h => hSf (W.sub _ h)
  have hsub : ∀ b ∈ wr, b ∈ S :: wr := fun b hb => List.mem_cons_of_mem _ hb
  intro k
  induction k with
  | zero =>
    intro i s hk hi hst hS hR
    obtain rfl : i = n := by omega
    refine codeAny_builtin PyProof.Rows.F.entry_set_update_loop ?_
    rw [Around.under_plainId PyProof.Rows.F.plain_set_update_loop _]
    show wpAny _ A.in1 (pyNext (.ref I) >>= _) _ _ s
    refine wpAny_bind (W.done s _ _ hst fun s' hm => ?_)
    show wpAny _ A.in1 (ret Value.none) _ _ s'
    exact wpAny_pure (hR s' (hm.mono hsub) (let ⟨o, es, ep, t, ho, rest⟩ := hS; ⟨o, es, ep, t, hm.heap S _ hSw ho, rest⟩))
  | succ k ih =>
    intro i s hk hi hst hS hR
    have hlt : i < n := by omega
    refine codeAny_builtin PyProof.Rows.F.entry_set_update_loop ?_
    rw [Around.under_plainId PyProof.Rows.F.plain_set_update_loop _]
    show wpAny _ A.in1 (pyNext (.ref I) >>= _) _ _ s
    refine wpAny_bind (W.item i s _ _ hlt hst fun v s' hP hst' hm => ?_)
    obtain ⟨t, rfl⟩ := hval i v hP
    have hS' : s'.heap.SetOf (PySem.strKind prog w) S (fun k' => (metS xs i).any (· == k')) (metS xs i).length := let ⟨o, es, ep, tb, ho, rest⟩ := hS; ⟨o, es, ep, tb, hm.heap S _ hSw ho, rest⟩
    show wpAny _ A.in1 (holding [Value.str (xs.getD i Str.empty) t] (setAdd S (.str (xs.getD i Str.empty) t)) >>= _) _ _ s'
    refine wpAny_bind (wpAny_holding ?_)
    unfold setAdd
    refine wpAny_holding ?_
    refine wpAny_bind ((PySem.strKind prog w).pyHash (k := xs.getD i Str.empty) (strKind_is _ _ _ _) ?_)
    have hroom : (metS xs i).length + 1 < scanBound := by have := metS_le xs i; omega
    refine wpAny_setAddHashed_of (knd := PySem.strKind prog w) (s := { s' with toks := s'.toks + 1 }) (strKind_is _ _ _ _) rfl hS' hroom fun h' hsb hS2 => ?_
    have hSi : h'.SetOf (PySem.strKind prog w) S (fun k' => (metS xs (i + 1)).any (· == k')) (metS xs (i + 1)).length :=
      SetOf_congr hS2 (fun k' => by rw [metS_succ (by omega), dedS_any]) (by rw [metS_succ (by omega), dedS_length])
    refine wpAny_pure ⟨plainId_quiet PyProof.Rows.F.plain_set_update_loop _, ih (i + 1) _ (by omega) hlt (W.frame _ s' _ _ hst' (Nat.le_succ _) fun b hb o e => ?_) hSi fun s'' hm'' hS'' => ?_⟩
    · rw [hsb.2 b (fun h : b = S => hSf (by rw [← h]; exact hb))]; exact e
    · refine hR s'' (Moved.trans W.gtrans ((hm.mono hsub).then_heap (Nat.le_succ _) fun b o hb e => ?_) hm'') hS''
      rw [hsb.2 b (fun h : b = S => hb (by rw [h]; exact List.mem_cons_self))]; exact e
end
section
variable {prog : Program} {w : World} {A : Around} {E : Value → Shared → Prop} {s : Shared}
theorem call_set_texts {l : Addr} {items : Array Value} {xs : List Str} {Q : Value → Shared → Prop}
    (hh : A.handled = none) (hl : s.heap.IsList l items) (hi : StrsAre items.toList xs) (hb : items.size + 1 < scanBound)
    (h : ∀ (h' : Heap) (tk : Nat), h'.SetOf (PySem.strKind prog w) s.heap.objs.size (fun k' => (metS xs items.size).any (· == k')) (metS xs items.size).length →
      (∀ b o, b < s.heap.objs.size → s.heap.get? b = some o → h'.get? b = some o) → Q (.ref s.heap.objs.size) { s with heap := h', toks := tk }) :
    wpAny (model prog w) A (call (.type "set") [.ref l]) Q E s := by
  obtain ⟨c, tl, hmro⟩ := PySem.F.called_set.mro
  have hmade := PySem.F.called_set.made
  have hsub := PySem.F.called_set.sub
  refine wpAny_call (codeAny_of_tree ?_)
  show wpAny _ _ (callAny (.type "set") _) _ _ _
  refine wpAny_pure ⟨Code.quiet_builtin _ (by decide +kernel), codeAny_builtin PySem.F.entry_type_call ?_⟩
  rw [Around.under_plain (weight_type_call_type "set" [.ref l] []) rfl]
  have h1 := PySem.F.called_set.notType
  have h2 := PySem.F.called_set.canCreate
  have hct := PySem.F.typeCall_set_1 (.ref l)
  repeat (any_goals (first | assumption | wp_step))
  refine codeAny_mono (code_set_new_1 (.ref l) (E := E) (Q₁ := fun obj s₁ => ∃ led : Bool, obj = .ref s.heap.objs.size ∧ s₁ = { s with heap := s.heap.push { cls := .type "set", dict := none, data := .set #[] 0 (.fresh 0 0 led) } }) fun led => ⟨led, rfl, rfl⟩) fun r s₁ hr => ?_
  cases r with
  | error e => exact hr
  | ok fl =>
    cases fl with
    | ret obj =>
      obtain ⟨led, rfl, rfl⟩ := hr
      have hS : (s.heap.push { cls := .type "set", dict := none, data := .set #[] 0 (.fresh 0 0 led) }).get? s.heap.objs.size = some { cls := .type "set", dict := none, data := .set #[] 0 (.fresh 0 0 led) } := Heap.get?_push_size _ rfl
      have hT : Shared.TypeIs { s with heap := s.heap.push { cls := .type "set", dict := none, data := .set #[] 0 (.fresh 0 0 led) } } (.ref s.heap.objs.size) "set" := ⟨_, hS, rfl⟩
      have hli := PySem.F.called_set.init.lookup
      have hbi := PySem.F.called_set.init.bind (.ref s.heap.objs.size)
      repeat (any_goals (first | assumption | wp_step))
      refine codeAny_mono (codeAny_call_builtin (R := wants (fun r s₂ => r = .none ∧ ∃ h' tk, s₂ = { s with heap := h', toks := tk } ∧
          h'.SetOf (PySem.strKind prog w) s.heap.objs.size (fun k' => (metS xs items.size).any (· == k')) (metS xs items.size).length ∧
          (∀ b o, b < s.heap.objs.size → s.heap.get? b = some o → h'.get? b = some o)) E) PySem.F.called_set.init.plain PySem.F.entry_set_init (check_set_init_1 hT ?_)) fun r₂ s₂ hr₂ => ?_
      · obtain ⟨ol, hol, hcl, nl, hdl⟩ := hl
        obtain ⟨ocls, odict, odata, oslots⟩ := ol
        simp only at hcl hdl
        subst hcl; subst hdl
        have hol' : (s.heap.push { cls := .type "set", dict := none, data := .set #[] 0 (.fresh 0 0 led) }).get? l = some { cls := .type "list", dict := odict, data := .seq items nl, slots := oslots } := Heap.get?_push_of_some _ hol
        have hsls := PySem.F.sub_list_set
        have hslf := PySem.F.sub_list_frozenset
        have hne : (Value.type "list" == Value.type "dict") = false := by decide
        have hl1 : (s.heap.push { cls := .type "set", dict := none, data := .set #[] 0 (.fresh 0 0 led) }).IsList l items := ⟨_, hol', rfl, nl, rfl⟩
        unfold Builtin.«set.__init__» noKeywords Builtin.Frozenset.updateFrom
        generalize hPI : pyIter = PI
        wp_walk
        subst hPI
        refine wpAny_pyIter_list hl1 ?_
        refine wpAny_bind (wpAny_runValue ?_)
        have hlS : l < s.heap.objs.size := Heap.lt_size hol
        have hh3 : A.in1.in1.in1.handled = none := by simp [hh]
        have hneI : l ≠ (s.heap.push { cls := .type "set", dict := none, data := .set #[] 0 (.fresh 0 0 led) }).objs.size := by rw [Heap.size_push]; exact Nat.ne_of_lt (Nat.lt_succ_of_lt hlS)
        have hSf : s.heap.objs.size ∉ [(s.heap.push { cls := .type "set", dict := none, data := .set #[] 0 (.fresh 0 0 led) }).objs.size, l] := by
          rw [Heap.size_push]; simp only [List.mem_cons, List.mem_singleton, List.not_mem_nil, or_false, not_or]
          exact ⟨Nat.ne_of_lt (Nat.lt_succ_self _), Nat.ne_of_gt hlS⟩
        have hsz : xs.length = items.size := by rw [← StrsAre.len_eq hi, Array.length_toList]
        refine loop_set ((Walks.list hh3 _ l hneI items).toS) s.heap.objs.size hSf xs hsz hb (fun i v hv => strs_get hi i v (by rw [Array.getElem?_toList]; exact hv)) (items.size - 0) 0 _ (by omega) (Nat.zero_le _)
          ⟨⟨_, Heap.get?_push_size _ rfl, rfl, rfl⟩, (hl1.push _)⟩ ?hS0 ?hR
        case hS0 =>
          have hget : ((s.heap.push { cls := .type "set", dict := none, data := .set #[] 0 (.fresh 0 0 led) }).push { cls := .type "list_iterator", data := .fields #[.ref l, .int 0 0] }).get? s.heap.objs.size = some { cls := .type "set", dict := none, data := .set #[] 0 (.fresh 0 0 led) } := Heap.get?_push_of_some _ hS
          exact SetOf_congr ((setObjOf_fresh (knd := PySem.strKind prog w) led).setOf hget (by unfold scanBound; omega)) (fun _ => rfl) rfl
        case hR =>
          intro s' hm hS'
          obtain ⟨h', g', d', tk', os'⟩ := s'
          have eg : g' = s.gens := hm.gens
          have ed : d' = s.drawn := hm.drawn
          have eo : os' = s.os := hm.os
          subst eg; subst ed; subst eo
          show wpAny _ _ _ _ _ _
          refine wpAny_pure ?_
          show wpAny _ _ (ret Value.none) _ _ _
          refine wpAny_pure ⟨rfl, h', tk', rfl, hS', fun b o hb e => ?_⟩
          have hb1 : b ≠ s.heap.objs.size := Nat.ne_of_lt hb
          have hb2 : b ≠ (s.heap.push { cls := .type "set", dict := none, data := .set #[] 0 (.fresh 0 0 led) }).objs.size := by rw [Heap.size_push]; exact Nat.ne_of_lt (Nat.lt_succ_of_lt hb)
          exact hm.heap b o (by simp only [List.mem_cons, List.mem_singleton, List.not_mem_nil, or_false, not_or]; exact ⟨hb1, hb2⟩) (Heap.get?_push_of_some _ (Heap.get?_push_of_some _ e))
      · cases r₂ with
        | error e => exact hr₂
        | ok fl₂ =>
          cases fl₂ with
          | ret r =>
            obtain ⟨rfl, h', tk, rfl, hS', hk'⟩ := hr₂
            repeat (any_goals (first | assumption | wp_step))
            exact h _ _ hS' hk'
          | _ => exact hr₂.elim
    | _ => exact hr.elim
theorem strsAre_of : ∀ {ys : List Str} {us : List Value}, Vals (ys.map V.str) us → StrsAre us ys
  | [], _, .nil => .nil
  | y :: ys, _, .cons r t => by
    obtain ⟨k, rfl⟩ := r
    exact .cons y k (strsAre_of t)
end
section
variable {X : Cx} {b : Bs} {e : Expr} {env e1 : En}
def tLenSetT (K : PySem.W.Frag) (ta : TE) : TE := fun σ H Q => ta σ H fun x H1 => ∃ (l : Addr) (xs : List Str), x = .ref l ∧ SqL K H1 l (xs.map V.str) ∧ xs.length ≤ 4000 ∧ Q (.int ((xs.foldl dedS []).length : Nat)) H1
theorem pe_lenSetT {a : Expr} {ta : TE} {p p2 q pos : Pos} (hc : X.calm = true) (hg : Gl X "len") (hm : X.mg "len" = none) (hg2 : Gl X "set") (hm2 : X.mg "set" = none) (ha : PE X a ta)
    (na : starEach [a] X.env = (false, eval a X.env) :: starEach [] X.env) : PE X (.Call (.Name "len" p) [.Call (.Name "set" p2) [a] [] q] [] pos) (tLenSetT X.K ta) := by
  refine ⟨fun pins s σ H Q I h => ?_⟩
  refine Call_ (ld_blt I hg hm boot_len ?_)
  refine PyProof.Rows.callWith_builtin1 (PyProof.Rows.args_cons ?_ rfl) rfl rfl
  refine Call_ (ld_blt I hg2 hm2 boot_set ?_)
  refine PyProof.Rows.callWith_type1 (PyProof.Rows.args_cons (thn (ha.run pins s σ H _ I h) fun v s1 ⟨x, H1, I1, r1, q1⟩ => PyProof.Rows.args_nil ?_) na) na rfl
  obtain ⟨l, xs, rfl, hq, hl, q1⟩ := q1
  cases r1
  obtain ⟨its, r, pl, hz⟩ := I1.list hq
  have hlen : its.toArray.size = xs.length := by rw [List.size_toArray, ← r.length, List.length_map]
  refine call_set_texts (I1.ok.hd hc) pl.isList (by simpa using strsAre_of r) (by rw [hlen]; unfold scanBound; omega) fun h' tk hS hk => ?_
  refine PyProof.Rows.args_nil ?_
  have em : metS xs its.toArray.size = xs.foldl dedS [] := by rw [hlen]; unfold metS; rw [List.take_length]
  rw [em] at hS
  have hle : (xs.foldl dedS []).length ≤ 4000 := by have := metS_le xs its.toArray.size; rw [em, hlen] at this; omega
  obtain ⟨o, es, ep, t, ho, hex, hd, _, _, _, hf, hn⟩ := hS
  have I2 : Inv X pins σ H1 { s1 with heap := h', toks := tk } := I1.kept fun b o e => hk b o (Heap.lt_size e) e
  exact call_len_set ho hex hd hf (by rw [hn] <;> omega) ⟨.int _, H1, I2.tok _, ⟨_, by rw [hn]⟩, q1⟩
theorem be_lenset {p p2 pos pos2 : Pos} {oo : Op} {d z : PyData} (hc : X.calm = true) (hg : Gl X "len") (hm : X.mg "len" = none) (hg2 : Gl X "set") (hm2 : X.mg "set" = none) (ha : BO X b e env oo e1) (rx : rdO e1 oo = some d) (h : lsetF d = some z)
    (hs : starEach [e] X.env = [(false, eval e X.env)]) : BE X b (.Call (.Name "len" p) [.Call (.Name "set" p2) [e] [] pos2] [] pos) env z false e1 := by
  cases d with
  | list ds =>
    obtain ⟨xs, h1, h2⟩ := Option.bind_eq_some_iff.mp (show (allStrs ds).bind (fun xs => if xs.length ≤ 4000 then some (PyData.int ((xs.foldl dedS []).length)) else none) = some z from h)
    split at h2
    · rename_i hl
      cases h2
      exact fun F σ H S Q q => we_of (pe_lenSetT hc hg hm hg2 hm2 (pe_we e) hs) (ha F σ H S _ fun va F1 H1 k1 S1 o1 => by
        obtain ⟨p, vs, rfl, g1, g2⟩ := (S1.rd o1 rx).seqL S1.fh
        rw [allStrs_map h1] at g2
        rw [g2.to_strs] at g1
        exact ⟨p, xs, rfl, g1, hl, q _ F1 H1 k1 S1 (.int _)⟩)
    · cases h2
  | _ => cases h
end
end Mi

set_option maxHeartbeats 2000000
/-! D18c: zip of a list or a tuple with a list or a tuple. -/
namespace Mi
open PySem PySem.Spec PyProof.Rows L2
open PySem.Sem (wp)
/-- a list (false) or a tuple (true) at l -/
def SqI (t : Bool) (h : Heap) (l : Addr) (xs : Array Value) : Prop := match t with
  | true => h.IsTuple l xs
  | false => h.IsList l xs
def SIt (t : Bool) (h : Heap) (it l : Addr) (k : Nat) : Prop := match t with
  | true => h.IsTupleIter it l k
  | false => h.IsListIter it l k
theorem SqI.extBut {t : Bool} {h h' : Heap} {a b : Addr} {xs : Array Value} (x : SqI t h a xs) (hs : Heap.ExtBut b h h') (hab : a ≠ b) : SqI t h' a xs := by
  cases t with
  | true => exact Heap.IsTuple.extBut x hs hab
  | false => exact Heap.IsList.extBut x hs hab
theorem SqI.lt {t : Bool} {h : Heap} {a : Addr} {xs : Array Value} (x : SqI t h a xs) : a < h.objs.size := by
  cases t with
  | true => obtain ⟨_, e, _⟩ := x; exact Heap.lt_size e
  | false => obtain ⟨_, e, _⟩ := x; exact Heap.lt_size e
theorem SIt.extBut {t : Bool} {h h' : Heap} {a b l : Addr} {k : Nat} (x : SIt t h a l k) (hs : Heap.ExtBut b h h') (hab : a ≠ b) : SIt t h' a l k := by
  cases t with
  | true => exact Heap.IsTupleIter.extBut x hs hab
  | false => exact Heap.IsListIter.extBut x hs hab
theorem SIt.at {t : Bool} {h h' : Heap} {a l : Addr} {k : Nat} (x : SIt t h a l k) (e : ∀ o, h.get? a = some o → h'.get? a = some o) : SIt t h' a l k := by
  cases t with
  | true => exact Heap.IsTupleIter.at x e
  | false => exact Heap.IsListIter.at x e
theorem SIt.lt {t : Bool} {h : Heap} {a l : Addr} {k : Nat} (x : SIt t h a l k) : a < h.objs.size := by
  cases t with
  | true => obtain ⟨_, e, _⟩ := x; exact Heap.lt_size e
  | false => obtain ⟨_, e, _⟩ := x; exact Heap.lt_size e
theorem SIt.obj {t : Bool} {h : Heap} {a l : Addr} {k : Nat} (x : SIt t h a l k) : ∃ o, h.get? a = some o ∧ ∀ v, o.data ≠ .cell v := by
  cases t with
  | true => obtain ⟨o, e, _, d⟩ := x; exact ⟨o, e, fun v q => by rw [d] at q; cases q⟩
  | false => obtain ⟨o, e, _, d⟩ := x; exact ⟨o, e, fun v q => by rw [d] at q; cases q⟩
section
variable {prog : Program} {w : World} {A : Around} {E : Value → Shared → Prop} {s : Shared}
theorem nextS_item {t : Bool} {it l : Addr} {i : Nat} {items : Array Value} {x : Value} {Q : Value → Shared → Prop} (hit : SIt t s.heap it l i)
    (hl : SqI t s.heap l items) (hx : items[i]? = some x)
    (hQ : ∀ h', SIt t h' it l (i + 1) → Heap.SameBut it s.heap h' → Q x { s with heap := h' }) :
    wpAny (model prog w) A (Builtin.SmallTypes.nextOf (.ref it)) Q E s := by
  cases t with
  | true => exact RZ.nextOf_tuple_item hit hl hx hQ
  | false => exact wpAny_nextOf_list_item hit hl hx hQ
theorem nextS_end {t : Bool} {it l : Addr} {i : Nat} {items : Array Value} {Q : Value → Shared → Prop} (hh : A.handled = none)
    (hit : SIt t s.heap it l i) (hl : SqI t s.heap l items) (hx : items[i]? = none)
    (hE : ∀ h' e, Heap.ExtBut it s.heap h' → (∃ o, h'.get? e = some o ∧ o.cls = .type "StopIteration") → E (.ref e) { s with heap := h' }) :
    wpAny (model prog w) A (Builtin.SmallTypes.nextOf (.ref it)) Q E s := by
  cases t with
  | true => exact RZ.nextOf_tuple_end hh hit hl hx hE
  | false => exact wpAny_nextOf_list_end hh hit hl hx hE
theorem zipS_next_item {t1 t2 : Bool} {z TI TO i1 i2 l1 l2 : Addr} {k1 k2 : Nat} {xs ys : Array Value} {x y a b : Value} {Q : Value → Shared → Prop} (D : ZipApart z TI TO i1 i2 l1 l2)
    (hz : IsZip s.heap z TI TO .none) (hTI : IsPair s.heap TI (.ref i1) (.ref i2)) (hTO : IsPair s.heap TO a b)
    (h1 : SIt t1 s.heap i1 l1 k1) (h2 : SIt t2 s.heap i2 l2 k2) (hl1 : SqI t1 s.heap l1 xs) (hl2 : SqI t2 s.heap l2 ys) (hx : xs[k1]? = some x) (hy : ys[k2]? = some y)
    (hQ : ∀ h', IsZip h' z TI TO (rawInt s.heap.objs.size) → IsPair h' TO x y → SIt t1 h' i1 l1 (k1 + 1) → SIt t2 h' i2 l2 (k2 + 1) → IsPair h' s.heap.objs.size x y → h'.objs.size = s.heap.objs.size + 1 →
      (∀ c o, c ≠ z → c ≠ TO → c ≠ i1 → c ≠ i2 → s.heap.get? c = some o → h'.get? c = some o) → Q (.ref s.heap.objs.size) { s with heap := h' }) :
    wpAny (model prog w) A (Builtin.«zip.__next__» ⟨[.ref z], []⟩) (fun fin s' => ∃ v, fin = .done (.ret v) ∧ Q v s') E s := by
  show wpAny _ _ (field (.ref z) 2 >>= _) _ _ _
  refine wpAny_bind (wpAny_field hz rfl (x := .bool false) rfl ?_)
  show wpAny _ _ (field (.ref z) 3 >>= _) _ _ _
  refine wpAny_bind (wpAny_field hz rfl (x := .ref TI) rfl ?_)
  refine wpAny_bind (wpAny_seqItems hTI rfl ?_)
  show wpAny _ _ (Builtin.SmallTypes.ownedTupleIsFree (.ref z) >>= _) _ _ _
  refine wpAny_bind ?_
  unfold Builtin.SmallTypes.ownedTupleIsFree
  refine wpAny_bind (wpAny_field hz rfl (x := .none) rfl (wpAny_pure ?_))
  simp only [if_true]
  refine wpAny_bind (wpAny_rule ?_)
  refine wpAny_bind (wpAny_field hz rfl (x := .ref TO) rfl ?_)
  refine wpAny_bind (wpAny_setField_rec hz (by simp) fun h₁ hz₁ hs₁ => ?_)
  replace hz₁ : IsZip h₁ z TI TO .ellipsis := hz₁
  refine wpAny_bind ?_
  simp only [List.zipIdx_cons, List.zipIdx_nil, List.forIn_cons, List.forIn_nil]

  refine wpAny_bind (wpAny_bind (wpAny_onRaise ?_))
  show wpAny _ _ (Builtin.SmallTypes.nextOf (.ref i1) >>= _) _ _ _
  refine wpAny_bind (nextS_item (h1.extBut hs₁.extBut D.i1z) (hl1.extBut hs₁.extBut D.l1z) hx fun h₂ h1₂ hs₂ => wpAny_pure ?_)
  have hTO₂ : IsPair h₂ TO a b := hs₂.extBut _ _ D.TOi1 (hs₁.extBut _ _ D.TOz hTO)
  refine wpAny_bind (wpAny_seqItems hTO₂ rfl ?_)
  refine wpAny_bind (wpAny_updateSeq_pair hTO₂ fun h₃ hTO₃ hs₃ => ?_)
  replace hTO₃ : IsPair h₃ TO x b := hTO₃
  refine wpAny_bind (wpAny_letGo (wpAny_pure ?_))

  refine wpAny_bind (wpAny_bind (wpAny_onRaise ?_))
  show wpAny _ _ (Builtin.SmallTypes.nextOf (.ref i2) >>= _) _ _ _
  refine wpAny_bind (nextS_item (((h2.extBut hs₁.extBut D.i2z).extBut hs₂.extBut D.i12.symm).extBut hs₃.extBut D.TOi2.symm)
    (((hl2.extBut hs₁.extBut D.l2z).extBut hs₂.extBut D.l2i1).extBut hs₃.extBut D.l2TO) hy fun h₄ h2₄ hs₄ => wpAny_pure ?_)
  have hTO₄ : IsPair h₄ TO x b := hs₄.extBut _ _ D.TOi2 hTO₃
  refine wpAny_bind (wpAny_seqItems hTO₄ rfl ?_)
  refine wpAny_bind (wpAny_updateSeq_pair hTO₄ fun h₅ hTO₅ hs₅ => ?_)
  replace hTO₅ : IsPair h₅ TO x y := hTO₅
  refine wpAny_bind (wpAny_letGo (wpAny_pure (wpAny_pure ?_)))

  refine wpAny_bind (wpAny_seqItems hTO₅ rfl ?_)
  refine wpAny_bind (wpAny_newTuple ?_)
  have hsz : h₅.objs.size = s.heap.objs.size := by rw [hs₅.1, hs₄.1, hs₃.1, hs₂.1, hs₁.1]
  have hz₅ : IsZip h₅ z TI TO .ellipsis := hs₅.extBut _ _ D.TOz.symm (hs₄.extBut _ _ D.i2z.symm (hs₃.extBut _ _ D.TOz.symm (hs₂.extBut _ _ D.i1z.symm hz₁)))
  have hk₅ : ∀ c o, c ≠ z → c ≠ TO → c ≠ i1 → c ≠ i2 → s.heap.get? c = some o → h₅.get? c = some o := fun c o c1 c2 c3 c4 e =>
    hs₅.extBut _ _ c2 (hs₄.extBut _ _ c4 (hs₃.extBut _ _ c2 (hs₂.extBut _ _ c3 (hs₁.extBut _ _ c1 e))))
  have h1₅ : SIt t1 h₅ i1 l1 (k1 + 1) := ((h1₂.extBut hs₃.extBut D.TOi1.symm).extBut hs₄.extBut D.i12).extBut hs₅.extBut D.TOi1.symm
  have h2₅ : SIt t2 h₅ i2 l2 (k2 + 1) := h2₄.extBut hs₅.extBut D.TOi2.symm
  have hzlt : z < h₅.objs.size := Heap.lt_size hz₅
  have hTOlt : TO < h₅.objs.size := Heap.lt_size hTO₅
  have hi1lt : i1 < h₅.objs.size := h1₅.lt
  have hi2lt : i2 < h₅.objs.size := h2₅.lt
  show wpAny _ _ (Builtin.SmallTypes.ownedTupleHandOut (.ref z) (.ref h₅.objs.size) >>= _) _ _ _
  refine wpAny_bind ?_
  unfold Builtin.SmallTypes.ownedTupleHandOut
  have hz₆ : IsZip (h₅.push { cls := .type "tuple", data := .seq #[x, y] }) z TI TO .ellipsis := Heap.get?_push_of_some _ hz₅
  refine wpAny_bind (wpAny_setField_rec hz₆ (by simp) fun h₇ hz₇ hs₇ => ?_)
  replace hz₇ : IsZip h₇ z TI TO (rawInt h₅.objs.size) := hz₇
  refine wpAny_setField_rec hz₇ (by simp) fun h₈ hz₈ hs₈ => ?_
  replace hz₈ : IsZip h₈ z TI TO (rawInt h₅.objs.size) := hz₈
  have up : ∀ c o, c ≠ z → h₅.get? c = some o → h₈.get? c = some o := fun c o c1 e => hs₈.extBut _ _ c1 (hs₇.extBut _ _ c1 (Heap.get?_push_of_some _ e))
  have hT₈ : IsPair h₈ h₅.objs.size x y := hs₈.extBut _ _ (Nat.ne_of_gt hzlt) (hs₇.extBut _ _ (Nat.ne_of_gt hzlt) (Heap.get?_push_size _ rfl))
  have hz8 : h₈.objs.size = h₅.objs.size + 1 := by rw [hs₈.1, hs₇.1, Heap.size_push]
  rw [hsz] at hz₈ hT₈ hz8
  refine wpAny_pure ⟨_, rfl, ?_⟩
  show Q (.ref h₅.objs.size) _
  rw [hsz]
  exact hQ h₈ hz₈ (up _ _ D.TOz hTO₅) (h1₅.at fun o e => up _ o D.i1z e) (h2₅.at fun o e => up _ o D.i2z e) hT₈ hz8 fun c o c1 c2 c3 c4 e => up c o c1 (hk₅ c o c1 c2 c3 c4 e)

theorem zipS_next_end {t1 t2 : Bool} {z TI TO i1 i2 l1 l2 : Addr} {k1 k2 : Nat} {xs ys : Array Value} {a b : Value} {Q : Fin → Shared → Prop} (hh : A.handled = none) (D : ZipApart z TI TO i1 i2 l1 l2)
    (hz : IsZip s.heap z TI TO .none) (hTI : IsPair s.heap TI (.ref i1) (.ref i2)) (hTO : IsPair s.heap TO a b)
    (h1 : SIt t1 s.heap i1 l1 k1) (h2 : SIt t2 s.heap i2 l2 k2) (hl1 : SqI t1 s.heap l1 xs) (hl2 : SqI t2 s.heap l2 ys) (hend : xs[k1]? = none ∨ ys[k2]? = none)
    (hE : ∀ h' e, (∀ c o, c ≠ z → c ≠ TO → c ≠ i1 → c ≠ i2 → s.heap.get? c = some o → h'.get? c = some o) → (∃ o, h'.get? e = some o ∧ o.cls = .type "StopIteration") → E (.ref e) { s with heap := h' }) :
    wpAny (model prog w) A (Builtin.«zip.__next__» ⟨[.ref z], []⟩) Q E s := by
  show wpAny _ _ (field (.ref z) 2 >>= _) _ _ _
  refine wpAny_bind (wpAny_field hz rfl (x := .bool false) rfl ?_)
  show wpAny _ _ (field (.ref z) 3 >>= _) _ _ _
  refine wpAny_bind (wpAny_field hz rfl (x := .ref TI) rfl ?_)
  refine wpAny_bind (wpAny_seqItems hTI rfl ?_)
  show wpAny _ _ (Builtin.SmallTypes.ownedTupleIsFree (.ref z) >>= _) _ _ _
  refine wpAny_bind ?_
  unfold Builtin.SmallTypes.ownedTupleIsFree
  refine wpAny_bind (wpAny_field hz rfl (x := .none) rfl (wpAny_pure ?_))
  simp only [if_true]
  refine wpAny_bind (wpAny_rule ?_)
  refine wpAny_bind (wpAny_field hz rfl (x := .ref TO) rfl ?_)
  refine wpAny_bind (wpAny_setField_rec hz (by simp) fun h₁ hz₁ hs₁ => ?_)
  replace hz₁ : IsZip h₁ z TI TO .ellipsis := hz₁
  refine wpAny_bind ?_
  simp only [List.zipIdx_cons, List.zipIdx_nil, List.forIn_cons, List.forIn_nil]
  refine wpAny_bind (wpAny_bind (wpAny_onRaise ?_))
  show wpAny _ _ (Builtin.SmallTypes.nextOf (.ref i1) >>= _) _ _ _
  cases hx : xs[k1]? with
  | none =>
    refine wpAny_bind (nextS_end hh (h1.extBut hs₁.extBut D.i1z) (hl1.extBut hs₁.extBut D.l1z) hx fun h₂ e hs₂ he => ?_)
    obtain ⟨oe, hoe, hce⟩ := he
    have hz₂ : IsZip h₂ z TI TO .ellipsis := hs₂ _ _ D.i1z.symm hz₁
    have hez : e ≠ z := fun x => by subst x; rw [hz₂] at hoe; cases hoe; simp at hce
    refine wpAny_setField_rec hz₂ (by simp) fun h₃ _ hs₃ => hE h₃ e (fun c o c1 _ c3 _ x => hs₃.extBut _ _ c1 (hs₂ _ _ c3 (hs₁.extBut _ _ c1 x))) ⟨oe, hs₃.extBut _ _ hez hoe, hce⟩
  | some x =>
    have hy : ys[k2]? = none := by rcases hend with h | h; rw [hx] at h; cases h; exact h
    refine wpAny_bind (nextS_item (h1.extBut hs₁.extBut D.i1z) (hl1.extBut hs₁.extBut D.l1z) hx fun h₂ h1₂ hs₂ => wpAny_pure ?_)
    have hTO₂ : IsPair h₂ TO a b := hs₂.extBut _ _ D.TOi1 (hs₁.extBut _ _ D.TOz hTO)
    refine wpAny_bind (wpAny_seqItems hTO₂ rfl ?_)
    refine wpAny_bind (wpAny_updateSeq_pair hTO₂ fun h₃ hTO₃ hs₃ => ?_)
    refine wpAny_bind (wpAny_letGo (wpAny_pure ?_))
    refine wpAny_bind (wpAny_bind (wpAny_onRaise ?_))
    show wpAny _ _ (Builtin.SmallTypes.nextOf (.ref i2) >>= _) _ _ _
    refine wpAny_bind (nextS_end hh (((h2.extBut hs₁.extBut D.i2z).extBut hs₂.extBut D.i12.symm).extBut hs₃.extBut D.TOi2.symm)
      (((hl2.extBut hs₁.extBut D.l2z).extBut hs₂.extBut D.l2i1).extBut hs₃.extBut D.l2TO) hy fun h₄ e hs₄ he => ?_)
    obtain ⟨oe, hoe, hce⟩ := he
    have hz₄ : IsZip h₄ z TI TO .ellipsis := hs₄ _ _ D.i2z.symm (hs₃.extBut _ _ D.TOz.symm (hs₂.extBut _ _ D.i1z.symm hz₁))
    have hez : e ≠ z := fun x => by subst x; rw [hz₄] at hoe; cases hoe; simp at hce
    refine wpAny_setField_rec hz₄ (by simp) fun h₅ _ hs₅ => hE h₅ e (fun c o c1 c2 c3 c4 x => hs₅.extBut _ _ c1 (hs₄ _ _ c4 (hs₃.extBut _ _ c2 (hs₂.extBut _ _ c3 (hs₁.extBut _ _ c1 x))))) ⟨oe, hs₅.extBut _ _ hez hoe, hce⟩

theorem pyNext_zipS_item {t1 t2 : Bool} {z TI TO i1 i2 l1 l2 : Addr} {k1 k2 : Nat} {xs ys : Array Value} {x y a b : Value} {Q : Option Value → Shared → Prop} (D : ZipApart z TI TO i1 i2 l1 l2)
    (hz : IsZip s.heap z TI TO .none) (hTI : IsPair s.heap TI (.ref i1) (.ref i2)) (hTO : IsPair s.heap TO a b)
    (h1 : SIt t1 s.heap i1 l1 k1) (h2 : SIt t2 s.heap i2 l2 k2) (hl1 : SqI t1 s.heap l1 xs) (hl2 : SqI t2 s.heap l2 ys) (hx : xs[k1]? = some x) (hy : ys[k2]? = some y)
    (hQ : ∀ h', IsZip h' z TI TO (rawInt s.heap.objs.size) → IsPair h' TO x y → SIt t1 h' i1 l1 (k1 + 1) → SIt t2 h' i2 l2 (k2 + 1) → IsPair h' s.heap.objs.size x y → h'.objs.size = s.heap.objs.size + 1 →
      (∀ c o, c ≠ z → c ≠ TO → c ≠ i1 → c ≠ i2 → s.heap.get? c = some o → h'.get? c = some o) → Q (some (.ref s.heap.objs.size)) { s with heap := h' }) :
    wpAny (model prog w) A (pyNext (.ref z)) Q E s := by
  have hT : s.TypeIs (.ref z) "zip" := ⟨_, hz, rfl⟩
  unfold pyNext
  exact wpAny_bind (wpAny_attempt (wpAny_callSpecial?_slot (name := Str.ofString "__next__") hT F.slot_zip_next
    (wpAny_call_entry F.slot_zip_next hT F.entry_zip_next
      (zipS_next_item D hz hTI hTO h1 h2 hl1 hl2 hx hy fun h' a1 a2 a3 a4 a5 a6 a7 => wpAny_pure (hQ h' a1 a2 a3 a4 a5 a6 a7)) (F.args_zip_next_1 _))))

theorem pyNext_zipS_end {t1 t2 : Bool} {z TI TO i1 i2 l1 l2 : Addr} {k1 k2 : Nat} {xs ys : Array Value} {a b : Value} {Q : Option Value → Shared → Prop} (hh : A.handled = none) (D : ZipApart z TI TO i1 i2 l1 l2)
    (hz : IsZip s.heap z TI TO .none) (hTI : IsPair s.heap TI (.ref i1) (.ref i2)) (hTO : IsPair s.heap TO a b)
    (h1 : SIt t1 s.heap i1 l1 k1) (h2 : SIt t2 s.heap i2 l2 k2) (hl1 : SqI t1 s.heap l1 xs) (hl2 : SqI t2 s.heap l2 ys) (hend : xs[k1]? = none ∨ ys[k2]? = none)
    (hQ : ∀ h', (∀ c o, c ≠ z → c ≠ TO → c ≠ i1 → c ≠ i2 → s.heap.get? c = some o → h'.get? c = some o) → Q none { s with heap := h' }) : wpAny (model prog w) A (pyNext (.ref z)) Q E s := by
  have hT : s.TypeIs (.ref z) "zip" := ⟨_, hz, rfl⟩
  unfold pyNext
  refine wpAny_bind (wpAny_attempt (wpAny_callSpecial?_slot (name := Str.ofString "__next__") hT F.slot_zip_next
    (wpAny_call_entry F.slot_zip_next hT F.entry_zip_next (zipS_next_end hh D hz hTI hTO h1 h2 hl1 hl2 hend fun h' e hk he => ?_) (F.args_zip_next_1 _))))
  obtain ⟨o, ho, hc⟩ := he
  refine wpAny_bind (wpAny_isInstance (T := "StopIteration") (b := true) ⟨o, ho, hc⟩ isSubtype_stop ?_)
  exact wpAny_pure (hQ _ hk)

def itN (t : Bool) : String := if t = true then "tuple_iterator" else "list_iterator"
abbrev zSH1 (t1 : Bool) (h : Heap) (l1 : Addr) : Heap := h.push { cls := .type (itN t1), data := .fields #[.ref l1, .int 0 0] }
abbrev zSH2 (t1 t2 : Bool) (h : Heap) (l1 l2 : Addr) : Heap := (zSH1 t1 h l1).push { cls := .type (itN t2), data := .fields #[.ref l2, .int 0 0] }
abbrev zSH3 (t1 t2 : Bool) (h : Heap) (l1 l2 : Addr) : Heap := (zSH2 t1 t2 h l1 l2).push { cls := .type "tuple", data := .seq #[.ref h.objs.size, .ref (zSH1 t1 h l1).objs.size] }
abbrev zSH4 (t1 t2 : Bool) (h : Heap) (l1 l2 : Addr) : Heap := (zSH3 t1 t2 h l1 l2).push { cls := .type "tuple", data := .seq #[.none, .none] }
abbrev zSH5 (t1 t2 : Bool) (h : Heap) (l1 l2 : Addr) : Heap := (zSH4 t1 t2 h l1 l2).push { cls := .type "zip", data := .fields #[.none, .bool false, .bool false, .ref (zSH2 t1 t2 h l1 l2).objs.size, .ref (zSH3 t1 t2 h l1 l2).objs.size] }
end
theorem meets_zS (t1 t2 : Bool) (l1 l2 : Addr) (xs ys : Array Value) :
    Meets (Builtin.«zip.__new__» ⟨[.type "zip", .ref l1, .ref l2], []⟩) (fun _ R s => SqI t1 s.heap l1 xs ∧ SqI t2 s.heap l2 ys ∧
      R (.ok (.ret (.ref (zSH4 t1 t2 s.heap l1 l2).objs.size))) { s with heap := zSH5 t1 t2 s.heap l1 l2 }) :=
  .of_wp fun prog w A R s h => by
    obtain ⟨hp, g, d, tk, os⟩ := s; obtain ⟨hl1, hl2, h⟩ := h
    have hsub := sub_zip
    cases t1 with
    | true =>
      have hL1 : Heap.IsTuple (Shared.heap ⟨hp, g, d, tk, os⟩) l1 xs := hl1
      cases t2 with
      | true =>
        have hL2 : Heap.IsTuple (Shared.heap ⟨hp.push { cls := .type "tuple_iterator", data := .fields #[.ref l1, .int 0 0] }, g, d, tk, os⟩) l2 ys := Heap.IsTuple.push hl2 _
        wp_walk using wpAny_pyIter_tuple hL1, wpAny_pyIter_tuple hL2
        exact ⟨_, rfl, h⟩
      | false =>
        have hL2 : Heap.IsList (Shared.heap ⟨hp.push { cls := .type "tuple_iterator", data := .fields #[.ref l1, .int 0 0] }, g, d, tk, os⟩) l2 ys := Heap.IsList.push hl2 _
        wp_walk using wpAny_pyIter_tuple hL1, wpAny_pyIter_list hL2
        exact ⟨_, rfl, h⟩
    | false =>
      have hL1 : Heap.IsList (Shared.heap ⟨hp, g, d, tk, os⟩) l1 xs := hl1
      cases t2 with
      | true =>
        have hL2 : Heap.IsTuple (Shared.heap ⟨hp.push { cls := .type "list_iterator", data := .fields #[.ref l1, .int 0 0] }, g, d, tk, os⟩) l2 ys := Heap.IsTuple.push hl2 _
        wp_walk using wpAny_pyIter_list hL1, wpAny_pyIter_tuple hL2
        exact ⟨_, rfl, h⟩
      | false =>
        have hL2 : Heap.IsList (Shared.heap ⟨hp.push { cls := .type "list_iterator", data := .fields #[.ref l1, .int 0 0] }, g, d, tk, os⟩) l2 ys := Heap.IsList.push hl2 _
        wp_walk using wpAny_pyIter_list hL1, wpAny_pyIter_list hL2
        exact ⟨_, rfl, h⟩
theorem SIt.new (t : Bool) {h : Heap} {it l : Addr} (e : h.get? it = some { cls := .type (itN t), data := .fields #[.ref l, .int 0 0] }) : SIt t h it l 0 := by
  cases t with
  | true => exact ⟨_, e, rfl, rfl⟩
  | false => exact ⟨_, e, rfl, rfl⟩
section
variable {prog : Program} {w : World} {A : Around} {E : Value → Shared → Prop} {s : Shared}
theorem call_zS {t1 t2 : Bool} {l1 l2 : Addr} {xs ys : Array Value} {Q : Value → Shared → Prop} (hl1 : SqI t1 s.heap l1 xs) (hl2 : SqI t2 s.heap l2 ys)
    (h : ∀ h', IsZip h' (s.heap.objs.size + 4) (s.heap.objs.size + 2) (s.heap.objs.size + 3) .none → IsPair h' (s.heap.objs.size + 2) (.ref s.heap.objs.size) (.ref (s.heap.objs.size + 1)) →
      IsPair h' (s.heap.objs.size + 3) .none .none → SIt t1 h' s.heap.objs.size l1 0 → SIt t2 h' (s.heap.objs.size + 1) l2 0 → h'.objs.size = s.heap.objs.size + 5 →
      (∀ c o, s.heap.get? c = some o → h'.get? c = some o) → Q (.ref (s.heap.objs.size + 4)) { s with heap := h' }) :
    wpAny (model prog w) A (call (.type "zip") [.ref l1, .ref l2]) Q E s := by
  refine callType_new F.called_zip (by decide) (F.typeCall_zip_2 _ _) (F.newCall_zip_2 _ _) (fun obj => F.args_object_init_3 obj _ _) F.entry_zip_new
    (meets_zS t1 t2 l1 l2 xs ys) ⟨hl1, hl2, ?_⟩
  have z1 : (zSH1 t1 s.heap l1).objs.size = s.heap.objs.size + 1 := Heap.size_push ..
  have z2 : (zSH2 t1 t2 s.heap l1 l2).objs.size = s.heap.objs.size + 2 := by rw [Heap.size_push, z1]
  have z3 : (zSH3 t1 t2 s.heap l1 l2).objs.size = s.heap.objs.size + 3 := by rw [Heap.size_push, z2]
  have z4 : (zSH4 t1 t2 s.heap l1 l2).objs.size = s.heap.objs.size + 4 := by rw [Heap.size_push, z3]
  have z5 : (zSH5 t1 t2 s.heap l1 l2).objs.size = s.heap.objs.size + 5 := by rw [Heap.size_push, z4]
  have g5 : (zSH5 t1 t2 s.heap l1 l2).get? (zSH4 t1 t2 s.heap l1 l2).objs.size = some _ := Heap.get?_push_size _ rfl
  have g4 : (zSH5 t1 t2 s.heap l1 l2).get? (zSH3 t1 t2 s.heap l1 l2).objs.size = some _ := Heap.get?_push_of_some _ (Heap.get?_push_size _ rfl)
  have g3 : (zSH5 t1 t2 s.heap l1 l2).get? (zSH2 t1 t2 s.heap l1 l2).objs.size = some _ := Heap.get?_push_of_some _ (Heap.get?_push_of_some _ (Heap.get?_push_size _ rfl))
  have g2 : (zSH5 t1 t2 s.heap l1 l2).get? (zSH1 t1 s.heap l1).objs.size = some _ := Heap.get?_push_of_some _ (Heap.get?_push_of_some _ (Heap.get?_push_of_some _ (Heap.get?_push_size _ rfl)))
  have g1 : (zSH5 t1 t2 s.heap l1 l2).get? s.heap.objs.size = some _ := Heap.get?_push_of_some _ (Heap.get?_push_of_some _ (Heap.get?_push_of_some _ (Heap.get?_push_of_some _ (Heap.get?_push_size _ rfl))))
  show _ ∧ _
  rw [z2, z3, z4] at g5
  rw [z1, z2] at g3
  rw [z3] at g4
  rw [z1] at g2
  rw [z4]
  exact ⟨⟨_, g5, rfl⟩, h _ g5 g3 g4 (SIt.new t1 g1) (SIt.new t2 g2) z5 fun c o x =>
    Heap.get?_push_of_some _ (Heap.get?_push_of_some _ (Heap.get?_push_of_some _ (Heap.get?_push_of_some _ (Heap.get?_push_of_some _ x))))⟩
end
/-- a list or a tuple, by the abstract heap -/
def SqV (t : Bool) (K : PySem.W.Frag) (H : Hp) (a : Addr) (xs : List V) : Prop := match t with
  | true => SqT K H a xs
  | false => SqL K H a xs
theorem sqv {t : Bool} {X : Cx} {pins : List (Addr × Obj)} {σ : L2.St} {H : Hp} {s : Shared} {a : Addr} {xs : List V} (I : Inv X pins σ H s) (h : SqV t X.K H a xs) : ∃ its : List Value, Vals xs its ∧ SqI t s.heap a its.toArray := by
  cases t with
  | true => obtain ⟨its, rv, p, _⟩ := I.tuple h; exact ⟨its, rv, p⟩
  | false => obtain ⟨its, rv, p, _⟩ := I.list h; exact ⟨its, rv, p.isList⟩
theorem sqv_inj {t : Bool} {X : Cx} {pins : List (Addr × Obj)} {σ : L2.St} {H : Hp} {s : Shared} {a : Addr} {xs ys : List V} (I : Inv X pins σ H s) (h : SqV t X.K H a xs) (h' : SqV t X.K H a ys) : xs = ys := by
  cases t with
  | true => exact I.tuple_inj h h'
  | false => exact I.list_inj h h'
def ItzS (K : PySem.W.Frag) (t1 t2 : Bool) (a b : Addr) : It :=
  ⟨fun i H => ∃ (xs ys : List V) (x y : V), SqV t1 K H a xs ∧ SqV t2 K H b ys ∧ xs[i]? = some x ∧ ys[i]? = some y,
    fun i H v H' => ∃ T x y, v = .ref T ∧ H T = none ∧ H' = upd H T (.tup [x, y]) ∧ (∀ xs, SqV t1 K H a xs → xs[i]? = some x) ∧ ∀ ys, SqV t2 K H b ys → ys[i]? = some y,
    fun i H => ∃ xs ys : List V, SqV t1 K H a xs ∧ SqV t2 K H b ys ∧ (xs.length ≤ i ∨ ys.length ≤ i)⟩
theorem turn_zipS {P : Program} {w : World} {K : PySem.W.Frag} {elts : List Expr} {kk : Nat} {tpos : Pos} {t1 t2 : Bool} {a b z TI TO i1 i2 : Addr} (D : ZipApart z TI TO i1 i2 a b) :
    Turn P w K (.Tuple elts kk tpos) (ItzS K t1 t2 a b) [z, TI, TO, i1, i2] z (fun i h => IsZip h z TI TO .none ∧ IsPair h TI (.ref i1) (.ref i2) ∧ (∃ x y, IsPair h TO x y) ∧ SIt t1 h i1 a i ∧ SIt t2 h i2 b i) where
  mem := by simp
  obj := fun i h st c hc => by
    obtain ⟨hz, hTI, ⟨x, y, hTO⟩, h1, h2⟩ := st
    have e' : c = z ∨ c = TI ∨ c = TO ∨ c = i1 ∨ c = i2 := by simpa using hc
    rcases e' with q | q | q | q | q
    · rw [q]; exact ⟨_, hz, fun v q => nomatch q⟩
    · rw [q]; exact ⟨_, hTI, fun v q => nomatch q⟩
    · rw [q]; exact ⟨_, hTO, fun v q => nomatch q⟩
    · rw [q]; exact SIt.obj (t := t1) h1
    · rw [q]; exact SIt.obj (t := t2) h2
  keep := fun i h h' st k => by
    obtain ⟨hz, hTI, ⟨x, y, hTO⟩, h1, h2⟩ := st
    exact ⟨k z (by simp) _ hz, k TI (by simp) _ hTI, ⟨x, y, k TO (by simp) _ hTO⟩, h1.at fun o q => k i1 (by simp) o q, h2.at fun o q => k i2 (by simp) o q⟩
  item := by
    intro X hP hw hK hc i pins s σ H E I hf st hg
    subst hP hw hK
    obtain ⟨hz, hTI, ⟨x0, y0, hTO⟩, h1, h2⟩ := st
    obtain ⟨xs, ys, x, y, hqx, hqy, hx, hy⟩ := hg
    obtain ⟨its, rv, p⟩ := sqv I hqx
    obtain ⟨its2, rv2, p2⟩ := sqv I hqy
    obtain ⟨u, hu, ru⟩ := rv.get hx
    obtain ⟨u2, hu2, ru2⟩ := rv2.get hy
    have hzl : z < s.heap.objs.size := Heap.lt_size hz
    refine pyNext_zipS_item D hz hTI hTO h1 h2 p p2 (x := u) (y := u2) (by simpa using hu) (by simpa using hu2) fun h' z' TO' h1' h2' hT hsz hk => ?_
    refine ⟨_, rfl, wpAny_letOwnedTupleGo_zip (s := { s with heap := h' }) z' fun h'' z'' sb => ?_⟩
    have hT2 : h''.get? s.heap.objs.size = some { cls := .type "tuple", data := .seq #[u, u2] } := (sb.2 _ (Nat.ne_of_gt hzl)).trans hT
    have new : ObjOk X.prog X.w (upd H s.heap.objs.size (.tup [x, y])) h'' s.heap.objs.size (.tup [x, y]) :=
      ⟨by show 2 ≤ sizeLine; decide, [u, u2], .cons ru (.cons ru2 .nil), ⟨_, hT2, rfl, _, rfl⟩⟩
    have I1 : Inv X pins σ (upd H s.heap.objs.size (.tup [x, y])) { s with heap := h'' } :=
      I.turnedNew (t' := s.toks) (ch := [z, TI, TO, i1, i2]) (fun c o hb q => (sb.2 c (fun q' => hb (by simp [q']))).trans (hk c o (fun q' => hb (by simp [q'])) (fun q' => hb (by simp [q'])) (fun q' => hb (by simp [q'])) (fun q' => hb (by simp [q'])) q)) hf (Nat.le_refl _) new
    refine ⟨.ref s.heap.objs.size, _, I1, rfl, ⟨_, x, y, rfl, I.hok.fresh (Nat.le_refl _), rfl, fun l hl => by rw [sqv_inj I hl hqx]; exact hx, fun l hl => by rw [sqv_inj I hl hqy]; exact hy⟩, ⟨z'', ?_, ⟨u, u2, ?_⟩, ?_, ?_⟩, fun c hcm => ?_⟩
    · exact (sb.2 _ D.TIz).trans (hk _ _ D.TIz D.TITO D.TIi1 D.TIi2 hTI)
    · exact (sb.2 _ D.TOz).trans TO'
    · exact h1'.at fun o q => (sb.2 _ D.i1z).trans q
    · exact h2'.at fun o q => (sb.2 _ D.i2z).trans q
    · have hlt : c < s.heap.objs.size := by
        have e' : c = z ∨ c = TI ∨ c = TO ∨ c = i1 ∨ c = i2 := by simpa using hcm
        rcases e' with q | q | q | q | q
        · rw [q]; exact hzl
        · rw [q]; exact Heap.lt_size hTI
        · rw [q]; exact Heap.lt_size hTO
        · rw [q]; exact h1.lt
        · rw [q]; exact h2.lt
      rw [upd_ne (Nat.ne_of_lt hlt)]
      exact (hf c hcm).1
  done := by
    intro X hP hw hK hc i pins s σ H E I hf st hg
    subst hP hw hK
    obtain ⟨hz, hTI, ⟨x0, y0, hTO⟩, h1, h2⟩ := st
    obtain ⟨xs, ys, hqx, hqy, hend⟩ := hg
    obtain ⟨its, rv, p⟩ := sqv I hqx
    obtain ⟨its2, rv2, p2⟩ := sqv I hqy
    have l1 := rv.length
    have l2 := rv2.length
    have he : its.toArray[i]? = none ∨ its2.toArray[i]? = none := by
      rcases hend with q | q
      · exact .inl (by simp; omega)
      · exact .inr (by simp; omega)
    exact pyNext_zipS_end (I.ok.hd hc) D hz hTI hTO h1 h2 p p2 he fun h' hk => ⟨rfl, I.turnedL (t' := s.toks) (ch := [z, TI, TO, i1, i2]) (fun c o hb q =>
      hk c o (fun q' => hb (by simp [q'])) (fun q' => hb (by simp [q'])) (fun q' => hb (by simp [q'])) (fun q' => hb (by simp [q'])) q) hf⟩
  self := fun A i s Q E st h => wpAny_pyIter_zip st.1 h


def iZipS (K : PySem.W.Frag) (ta : TA) : TI := fun σ H R => ta σ H fun vs H1 => ∃ (t1 t2 : Bool) (a b : Addr) (xs ys : List V), vs = [.ref a, .ref b] ∧ SqV t1 K H1 a xs ∧ SqV t2 K H1 b ys ∧ R (ItzS K t1 t2 a b) H1
theorem pi_zipS {X : Cx} {e e2 : Expr} {ta : TA} {p pos tpos : Pos} {elts : List Expr} {kk : Nat} (hg : Gl X "zip") (hm : X.mg "zip" = none) (ha : PA X [e, e2] ta)
    (hs : starEach [e, e2] X.env = (false, eval e X.env) :: starEach [e2] X.env) (hpl : (backTo pos (starEach [e2] X.env)).any (·.1) = false) :
    PI X (.Tuple elts kk tpos) (.Call (.Name "zip" p) [e, e2] [] pos) (iZipS X.K ta) := by
  refine ⟨fun pins s σ H R I h => ?_⟩
  refine Call_ (ld_blt I hg hm PyProof.Rows.boot_zip (PyProof.Rows.callWith_type1 (thn (ha.run pos pins s σ H _ I h) fun us s1 ⟨vs, H1, I1, r1, q1⟩ => ?_) hs hpl))
  obtain ⟨t1, t2, a, b, xs, ys, ex, hqx, hqy, q⟩ := q1
  subst ex
  cases r1 with
  | cons r rr =>
    cases rr with
    | cons r' rr =>
      cases rr
      cases r
      cases r'
      have fresh5 : ∀ c, c ∈ [s1.heap.objs.size + 4, s1.heap.objs.size + 2, s1.heap.objs.size + 3, s1.heap.objs.size, s1.heap.objs.size + 1] → FpOk X pins H1 c := fun c hcm => by
        have hle : s1.heap.objs.size ≤ c := by
          simp at hcm; omega
        exact I1.fpOk hle (I1.hok.fresh hle)
      obtain ⟨its, rv, p1⟩ := sqv I1 hqx
      obtain ⟨its2, rv2, p2⟩ := sqv I1 hqy
      refine call_zS p1 p2 fun h' hz hTI hTO h1 h2 hsz hk => wpAny_pyIter_zip hz ?_
      have I2 : Inv X pins σ H1 { s1 with heap := h' } := I1.kept (t' := s1.toks) hk
      exact ⟨s1.heap.objs.size + 4, [s1.heap.objs.size + 4, s1.heap.objs.size + 2, s1.heap.objs.size + 3, s1.heap.objs.size, s1.heap.objs.size + 1], _, _, H1, rfl, I2, turn_zipS (PySem.W.ktu_apart s1.heap.objs.size a b p1.lt p2.lt), ⟨hz, hTI, ⟨_, _, hTO⟩, h1, h2⟩, fresh5, q⟩
theorem SqV.of {t : Bool} {K : PySem.W.Frag} {F H : Hp} {a : Addr} {vs : List V} (e : Same F H) (h : SqV t K F a vs) : SqV t K H a vs := by
  cases t with
  | true => exact same_t e h
  | false => exact same_l e h
theorem zipL_get : ∀ (xs ys : List PyData) (i : Nat), (zipL xs ys)[i]? = (xs[i]?).bind fun x => (ys[i]?).map fun y => .tuple [x, y]
  | [], ys, i => by simp [zipL]
  | x :: xs, [], i => by simp [zipL]
  | x :: xs, y :: ys, 0 => by simp [zipL]
  | x :: xs, y :: ys, i + 1 => by
    show (zipL xs ys)[i]? = _
    rw [zipL_get xs ys i]
    simp
theorem zipL_len : ∀ (xs ys : List PyData), (zipL xs ys).length = min xs.length ys.length
  | [], ys => by simp [zipL]
  | x :: xs, [] => by simp [zipL]
  | x :: xs, y :: ys => by
    show (zipL xs ys).length + 1 = _
    rw [zipL_len xs ys]
    simp only [List.length_cons]; omega
theorem wk_zipS {t1 t2 : Bool} {K : PySem.W.Frag} {F : Hp} {a b : Addr} {vs ws : List V} {xs ys : List PyData} (ha : SqV t1 K F a vs) (hb : SqV t2 K F b ws) (ra : RvAll K F vs xs) (rb : RvAll K F ws ys) : Wk K (ItzS K t1 t2 a b) F (zipL xs ys) := by
  have l1 := ra.length
  have l2 := rb.length
  refine ⟨fun i H hi q => ?_, fun H q => ⟨vs, ws, SqV.of q ha, SqV.of q hb, ?_⟩, fun i H v H' hi q y => ?_⟩
  · rw [zipL_len] at hi
    have h1 : i < vs.length := by omega
    have h2 : i < ws.length := by omega
    exact ⟨vs, ws, vs[i], ws[i], SqV.of q ha, SqV.of q hb, by simp [h1], by simp [h2]⟩
  · rw [zipL_len]; omega
  · obtain ⟨T, x, z, h1, h2, h3, h4, h5⟩ := y
    obtain ⟨d1, k1, k2⟩ := ra.getV (h4 vs (SqV.of q ha))
    obtain ⟨d2, k3, k4⟩ := rb.getV (h5 ws (SqV.of q hb))
    exact ⟨.tuple [d1, d2], by rw [zipL_get, k1, k3]; rfl, .inr ⟨T, x, z, d1, d2, h1, h2, h3, k2, k4, rfl⟩⟩
section
variable {X : Cx} {b : Bs} {tg e f : Expr} {env e1 e2 : En} {K : PySem.W.Frag} {F : Hp}
theorem sqv_of_rv {F F1 H1 : Hp} {v : V} {d : PyData} {xs : List PyData} (h : d = .list xs ∨ d = .tuple xs) (r : Rv K F v d) : ∃ (t : Bool) (a : Addr) (vs : List V), v = .ref a ∧ RvAll K F vs xs ∧ ∀ H, Same F H → SqV t K H a vs := by
  rcases h with rfl | rfl
  · cases r with
    | lst hq r => exact ⟨false, _, _, rfl, r, fun H e => SqL.of (e _ _ hq)⟩
  · cases r with
    | tup hq r => exact ⟨true, _, _, rfl, r, fun H e => same_t e hq⟩
theorem bi_zip {p pos tp : Pos} {elts : List Expr} {k : Nat} {d1 d2 : PyData} {xs ys : List PyData} (hg : Gl X "zip") (hm : X.mg "zip" = none) (ha : BE X b e env d1 false e1) (hb : BE X b f e1 d2 false e2) (h1 : d1 = .list xs ∨ d1 = .tuple xs) (h2 : d2 = .list ys ∨ d2 = .tuple ys)
    (hs : starEach [e, f] X.env = (false, eval e X.env) :: starEach [f] X.env) (hs2 : starEach [f] X.env = [(false, eval f X.env)]) (hpl : (backTo pos (starEach [f] X.env)).any (·.1) = false) :
    BI X b (.Tuple elts k tp) (.Call (.Name "zip" p) [e, f] [] pos) env (zipL xs ys) e2 := fun F σ H S R q => by
  refine wi_of (pi_zipS hg hm (pa_cons (pe_we e) (pa_cons (pe_we f) pa_nil hs2) hs) hs hpl) (ha F σ H S _ fun v F1 H1 k1 S1 r => hb F1 σ H1 S1 _ fun v2 F2 H2 k2 S2 r2 => ?_)
  have r' := Rv.mono k2 r
  obtain ⟨t1, a1, vs, rfl, ra, qa⟩ := sqv_of_rv (F1 := F2) (H1 := H2) h1 r'
  obtain ⟨t2, a2, ws, rfl, rb, qb⟩ := sqv_of_rv (F1 := F2) (H1 := H2) h2 r2
  exact ⟨t1, t2, a1, a2, vs, ws, rfl, qa _ S2.fh, qb _ S2.fh, q _ F2 H2 (k1.trans k2) S2 (wk_zipS (qa F2 (Same.refl F2)) (qb F2 (Same.refl F2)) ra rb)⟩
end
end Mi

set_option maxHeartbeats 2000000
/-! D18d: list(zip(xs, ys)) of two lists. -/
namespace Mi
open PySem PySem.Spec PyProof.Rows L2
open PySem.Sem (wp)
theorem zip_no_len : typeLookup (.type "zip") "__len__" = pure none := am_miss_of_fast (by decide +kernel)
theorem zip_no_hint : typeLookup (.type "zip") "__length_hint__" = pure none := am_miss_of_fast (by decide +kernel)
/-- where list(zip(..)) stands: Ts are the pairs made so far -/
structure ZL (z TI TO i1 i2 l1 l2 S N : Addr) (xs ys : Array Value) (i : Nat) (Ts : List Addr) (h : Heap) : Prop where
  hTI : IsPair h TI (.ref i1) (.ref i2)
  h1 : h.IsListIter i1 l1 i
  h2 : h.IsListIter i2 l2 i
  hl1 : h.IsList l1 xs
  hl2 : h.IsList l2 ys
  hz : (IsZip h z TI TO .none ∧ ∃ a b, IsPair h TO a b) ∨ ∃ T f oT, IsZipHeld h z TI TO T f ∧ h.get? T = some oT ∧ T ≠ z ∧ T ≠ i1 ∧ T ≠ i2 ∧ T ≠ S
  hS : ∃ c, h.get? S = some { cls := .type "list", dict := none, data := .seq (Ts.map Value.ref).toArray c, slots := #[] }
  len : Ts.length = i
  prs : ∀ (j : Nat) (T : Addr), Ts[j]? = some T → ∃ x y, xs[j]? = some x ∧ ys[j]? = some y ∧ IsPair h T x y
  nd : Ts.Nodup
  new : ∀ T ∈ Ts, N ≤ T
section
variable {prog : Program} {w : World} {A : Around} {E : Value → Shared → Prop} {s : Shared} {R : Result → Shared → Prop} {z TI TO i1 i2 l1 l2 S N : Addr} {xs ys : Array Value}
/-- the addresses apart from the pairs -/
structure ZN (z TI TO i1 i2 l1 l2 S N : Addr) : Prop where
  D : ZipApart z TI TO i1 i2 l1 l2
  Sz : S ≠ z
  STI : S ≠ TI
  STO : S ≠ TO
  Si1 : S ≠ i1
  Si2 : S ≠ i2
  Sl1 : S ≠ l1
  Sl2 : S ≠ l2
  bz : z < N
  bTO : TO < N
  b1 : i1 < N
  b2 : i2 < N
  bS : S < N
theorem lz_loop (hh : A.handled = none) (Z : ZN z TI TO i1 i2 l1 l2 S N) (hn : min xs.size ys.size ≤ sizeLine) (res : Value) :
    ∀ (k i : Nat) (s : Shared) (Ts : List Addr), min xs.size ys.size - i = k → i ≤ min xs.size ys.size → ZL z TI TO i1 i2 l1 l2 S N xs ys i Ts s.heap → N ≤ s.heap.objs.size →
    (∀ (h' : Heap) (Ts' : List Addr), (∃ c, h'.get? S = some { cls := .type "list", dict := none, data := .seq (Ts'.map Value.ref).toArray c, slots := #[] }) → Ts'.length = min xs.size ys.size →
      (∀ (j : Nat) (T : Addr), Ts'[j]? = some T → ∃ x y, xs[j]? = some x ∧ ys[j]? = some y ∧ IsPair h' T x y) → Ts'.Nodup → (∀ T ∈ Ts', N ≤ T) →
      (∀ c o, c ≠ z → c ≠ TO → c ≠ i1 → c ≠ i2 → c ≠ S → s.heap.get? c = some o → h'.get? c = some o) → R (.ok (.ret res)) { s with heap := h' }) →
    codeAny (model prog w) A (.builtin "list.extend.loop" ⟨[.ref S, .ref z, res], []⟩) R s := by
  have D := Z.D
  intro k
  induction k with
  | zero =>
    intro i s Ts hk hi L hN hR
    have hin : i = min xs.size ys.size := by omega
    refine codeAny_builtin F.entry_extend_loop ?_
    rw [Around.under_plainId F.plain_extend_loop _]
    show wpAny _ A.in1 (pyNext (.ref z) >>= _) _ _ s
    have hend : xs[i]? = none ∨ ys[i]? = none := by
      rcases Nat.le_total xs.size ys.size with h | h
      · exact .inl (Array.getElem?_eq_none (by rw [hin, Nat.min_eq_left h]; exact Nat.le_refl _))
      · exact .inr (Array.getElem?_eq_none (by rw [hin, Nat.min_eq_right h]; exact Nat.le_refl _))
    obtain ⟨c, hS⟩ := L.hS
    have fin : ∀ h' : Heap, (∀ c o, c ≠ z → c ≠ TO → c ≠ i1 → c ≠ i2 → s.heap.get? c = some o → h'.get? c = some o) → R (.ok (.ret res)) { s with heap := h' } := fun h' hk' =>
      hR h' Ts ⟨c, hk' _ _ Z.Sz Z.STO Z.Si1 Z.Si2 hS⟩ (by rw [L.len, hin]) (fun j T e => by
        obtain ⟨x, y, e1, e2, p⟩ := L.prs j T e
        have hT := L.new T (List.mem_of_getElem? e)
        exact ⟨x, y, e1, e2, hk' _ _ (Nat.ne_of_gt (Nat.lt_of_lt_of_le Z.bz hT)) (Nat.ne_of_gt (Nat.lt_of_lt_of_le Z.bTO hT)) (Nat.ne_of_gt (Nat.lt_of_lt_of_le Z.b1 hT)) (Nat.ne_of_gt (Nat.lt_of_lt_of_le Z.b2 hT)) p⟩) L.nd L.new fun c o c1 c2 c3 c4 _ e => hk' c o c1 c2 c3 c4 e
    rcases L.hz with ⟨hz, a, b, hTO⟩ | ⟨T, f, oT, hz, hT, r1, r2, r3, r4⟩
    · exact wpAny_bind (wpAny_pyNext_zip_end (show A.in1.handled = none from hh) D hz L.hTI hTO L.h1 L.h2 L.hl1 L.hl2 hend fun h' hk' => wpAny_pure (fin h' hk'))
    · exact wpAny_bind (wpAny_pyNext_zip_end_held (show A.in1.handled = none from hh) D hz hT L.hTI L.h1 L.h2 L.hl1 L.hl2 hend fun h' hk' => wpAny_pure (fin h' fun c o c1 _ c3 c4 e => hk' c o c1 c3 c4 e))
  | succ k ih =>
    intro i s Ts hk hi L hN hR
    have hlt : i < min xs.size ys.size := by omega
    have hix : i < xs.size := Nat.lt_of_lt_of_le hlt (Nat.min_le_left ..)
    have hiy : i < ys.size := Nat.lt_of_lt_of_le hlt (Nat.min_le_right ..)
    have ex := Array.getElem?_eq_getElem hix
    have ey := Array.getElem?_eq_getElem hiy
    obtain ⟨c, hS⟩ := L.hS
    refine codeAny_builtin F.entry_extend_loop ?_
    rw [Around.under_plainId F.plain_extend_loop _]
    show wpAny _ A.in1 (pyNext (.ref z) >>= _) _ _ s
    have go : ∀ h' : Heap, ((∃ T f oT, IsZipHeld h' z TI TO T f ∧ h'.get? T = some oT ∧ T ≠ z ∧ T ≠ i1 ∧ T ≠ i2 ∧ T ≠ S)) → h'.IsListIter i1 l1 (i + 1) → h'.IsListIter i2 l2 (i + 1) → IsPair h' s.heap.objs.size xs[i] ys[i] → h'.objs.size = s.heap.objs.size + 1 →
        (∀ c o, c ≠ z → c ≠ TO → c ≠ i1 → c ≠ i2 → s.heap.get? c = some o → h'.get? c = some o) →
        wpAny (model prog w) A.in1 (updateSeq S (·.push (.ref s.heap.objs.size)) >>= fun _ => again (.builtin "list.extend.loop" ⟨[.ref S, .ref z, res], []⟩))
          (fun fin s' => match fin with | .done f => R (.ok f) s' | .again c' => c'.quiet = true ∧ codeAny (model prog w) A c' R s') (fun e s' => R (.error e) s') { s with heap := h' } := fun h' hz' g1 g2 gp gs gk => by
      have hS' := gk _ _ Z.Sz Z.STO Z.Si1 Z.Si2 hS
      have sz : (Ts.map Value.ref).toArray.size = i := by simp [L.len]
      refine wpAny_bind ?_
      refine wpAny_updateSeq hS' rfl (wpAny_pure ⟨plainId_quiet F.plain_extend_loop _, ?_⟩) (by show (Ts.map Value.ref).toArray.size ≤ _; rw [sz]; omega) (by show ((Ts.map Value.ref).toArray.push _).size ≤ sizeLine + 1; rw [Array.size_push, sz]; omega)
      have hS2 := Heap.get?_update_self (Obj.mapSeq (·.push (.ref s.heap.objs.size))) hS' rfl
      have oth : ∀ b o, b ≠ S → h'.get? b = some o → (h'.update S (Obj.mapSeq (·.push (.ref s.heap.objs.size)))).get? b = some o := fun b o hb e => (Heap.get?_update_other _ _ (Ne.symm hb)).trans e
      have big : ∀ T, N ≤ T → T ≠ z ∧ T ≠ TO ∧ T ≠ i1 ∧ T ≠ i2 ∧ T ≠ S := fun T hT => ⟨Nat.ne_of_gt (Nat.lt_of_lt_of_le Z.bz hT), Nat.ne_of_gt (Nat.lt_of_lt_of_le Z.bTO hT), Nat.ne_of_gt (Nat.lt_of_lt_of_le Z.b1 hT), Nat.ne_of_gt (Nat.lt_of_lt_of_le Z.b2 hT), Nat.ne_of_gt (Nat.lt_of_lt_of_le Z.bS hT)⟩
      have gsz : (h'.update S (Obj.mapSeq (·.push (.ref s.heap.objs.size)))).objs.size = s.heap.objs.size + 1 := by rw [Heap.size_update, gs]
      refine ih (i + 1) { s with heap := h'.update S (Obj.mapSeq (·.push (.ref s.heap.objs.size))) } (Ts ++ [s.heap.objs.size]) (by omega) hlt
        ⟨oth _ _ (Ne.symm Z.STI) (gk _ _ D.TIz D.TITO D.TIi1 D.TIi2 L.hTI), g1.at fun o e => oth _ o (Ne.symm Z.Si1) e, g2.at fun o e => oth _ o (Ne.symm Z.Si2) e, L.hl1.at fun o e => oth _ o (Ne.symm Z.Sl1) (gk _ o D.l1z D.l1TO D.l1i1 D.l1i2 e),
          L.hl2.at fun o e => oth _ o (Ne.symm Z.Sl2) (gk _ o D.l2z D.l2TO D.l2i1 D.l2i2 e), .inr ?_, ⟨_, by rw [hS2]; simp [Obj.mapSeq]; rfl⟩, by simp [L.len], fun j T e => ?_, ?_, fun T hT => ?_⟩ (by rw [gsz]; exact Nat.le_succ_of_le hN) ?_
      · obtain ⟨T, f, oT, q1, q2, q3, q4, q5, q6⟩ := hz'
        exact ⟨T, f, oT, oth _ _ (Ne.symm Z.Sz) q1, oth _ _ q6 q2, q3, q4, q5, q6⟩
      · rw [List.getElem?_append] at e
        split at e
        · rename_i hj
          obtain ⟨x, y, e1, e2, p⟩ := L.prs j T e
          obtain ⟨c1, c2, c3, c4, c5⟩ := big T (L.new T (List.mem_of_getElem? e))
          exact ⟨x, y, e1, e2, oth _ _ c5 (gk _ _ c1 c2 c3 c4 p)⟩
        · rename_i hj
          have hj2 : j - Ts.length = 0 := by
            rcases Nat.eq_zero_or_pos (j - Ts.length) with q | q
            · exact q
            · rw [List.getElem?_eq_none (by simp; omega)] at e; cases e
          have hji : j = i := by rw [← L.len]; omega
          rw [hj2] at e
          cases e
          subst hji
          exact ⟨_, _, ex, ey, oth _ _ (big _ hN).2.2.2.2 gp⟩
      · rw [List.nodup_append]
        refine ⟨L.nd, by simp, fun a ha b hb => ?_⟩
        have hb' : b = s.heap.objs.size := by simpa using hb
        obtain ⟨j, hj⟩ := List.mem_iff_getElem?.mp ha
        obtain ⟨x, y, _, _, p⟩ := L.prs j a hj
        rw [hb']
        exact Nat.ne_of_lt (Heap.lt_size p)
      · rcases List.mem_append.mp hT with q | q
        · exact L.new T q
        · have : T = s.heap.objs.size := by simpa using q
          rw [this]; exact hN
      · exact fun h'' Ts' k1 k2 k3 k4 k5 k6 => hR h'' Ts' k1 k2 k3 k4 k5 fun c o c1 c2 c3 c4 c5 e => k6 c o c1 c2 c3 c4 c5 (oth _ _ c5 (gk c o c1 c2 c3 c4 e))
    have n1 : s.heap.objs.size ≠ i1 := Nat.ne_of_gt (Nat.lt_of_lt_of_le Z.b1 hN)
    have n2 : s.heap.objs.size ≠ i2 := Nat.ne_of_gt (Nat.lt_of_lt_of_le Z.b2 hN)
    have nz : s.heap.objs.size ≠ z := Nat.ne_of_gt (Nat.lt_of_lt_of_le Z.bz hN)
    have nS : s.heap.objs.size ≠ S := Nat.ne_of_gt (Nat.lt_of_lt_of_le Z.bS hN)
    rcases L.hz with ⟨hz, a, b, hTO⟩ | ⟨T, f, oT, hz, hT, r1, r2, r3, r4⟩
    · exact wpAny_bind (wpAny_pyNext_zip_item D hz L.hTI hTO L.h1 L.h2 L.hl1 L.hl2 ex ey fun h' a1 a2 a3 a4 a5 a6 hk' => go h' ⟨_, false, _, a1, a5, nz, n1, n2, nS⟩ a3 a4 a5 a6 hk')
    · exact wpAny_bind (wpAny_pyNext_zip_item_held D hz hT L.hTI L.h1 L.h2 L.hl1 L.hl2 ex ey fun h' a1 a3 a4 a5 a6 hk' => go h' ⟨T, true, oT, a1, hk' _ _ r1 r2 r3 hT, r1, r2, r3, r4⟩ a3 a4 a5 a6 fun c o c1 _ c3 c4 e => hk' c o c1 c3 c4 e)
theorem lz_init (hh : A.handled = none) (Z : ZN z TI TO i1 i2 l1 l2 S N) (hn : min xs.size ys.size ≤ sizeLine) (L : ZL z TI TO i1 i2 l1 l2 S N xs ys 0 [] s.heap) (q0 : IsZip s.heap z TI TO .none) (hS0 : s.heap.get? S = some { cls := .type "list", data := .seq #[] }) (hN : N ≤ s.heap.objs.size)
    (hR : ∀ (h' : Heap) (Ts' : List Addr), (∃ c, h'.get? S = some { cls := .type "list", dict := none, data := .seq (Ts'.map Value.ref).toArray c, slots := #[] }) → Ts'.length = min xs.size ys.size →
      (∀ (j : Nat) (T : Addr), Ts'[j]? = some T → ∃ x y, xs[j]? = some x ∧ ys[j]? = some y ∧ IsPair h' T x y) → Ts'.Nodup → (∀ T ∈ Ts', N ≤ T) →
      (∀ c o, c ≠ z → c ≠ TO → c ≠ i1 → c ≠ i2 → c ≠ S → s.heap.get? c = some o → h'.get? c = some o) → R (.ok (.ret .none)) { s with heap := h' }) :
    wpAny (model prog w) A.in1 (Builtin.«list.__init__» ⟨[.ref S, .ref z], []⟩)
      (fun fin s' => match fin with | .done f => R (.ok f) s' | .again c' => c'.quiet = true ∧ codeAny (model prog w) A c' R s') (fun e s' => R (.error e) s') s := by
  have D := Z.D
  have upd0 : ∀ (h : Heap) (c : Nat) (f : Array Value → Array Value), ZL z TI TO i1 i2 l1 l2 S N xs ys 0 [] h → (∃ c', (h.update S (Obj.mapSeq f)).get? S = some { cls := .type "list", dict := none, data := .seq (([] : List Addr).map Value.ref).toArray c', slots := #[] }) →
      ZL z TI TO i1 i2 l1 l2 S N xs ys 0 [] (h.update S (Obj.mapSeq f)) := fun h c f L hc => by
    have oth : ∀ b o, b ≠ S → h.get? b = some o → (h.update S (Obj.mapSeq f)).get? b = some o := fun b o hb e => (Heap.get?_update_other _ _ (Ne.symm hb)).trans e
    refine ⟨oth _ _ (Ne.symm Z.STI) L.hTI, L.h1.at fun o e => oth _ o (Ne.symm Z.Si1) e, L.h2.at fun o e => oth _ o (Ne.symm Z.Si2) e, L.hl1.at fun o e => oth _ o (Ne.symm Z.Sl1) e, L.hl2.at fun o e => oth _ o (Ne.symm Z.Sl2) e, ?_, hc, rfl, (fun j T e => by simp at e), List.nodup_nil, fun T hT => nomatch hT⟩
    rcases L.hz with ⟨q1, a, b, q2⟩ | ⟨T, f, oT, q1, q2, q3, q4, q5, q6⟩
    · exact .inl ⟨oth _ _ (Ne.symm Z.Sz) q1, a, b, oth _ _ (Ne.symm Z.STO) q2⟩
    · exact .inr ⟨T, f, oT, oth _ _ (Ne.symm Z.Sz) q1, oth _ _ q6 q2, q3, q4, q5, q6⟩
  show wpAny _ A.in1 (do let old ← Builtin.List.listItems (.ref S); Builtin.List.listUpdate (.ref S) (fun _ => #[]); letGo old.toList.reverse; Builtin.List.listExtendWith (.ref S) (.ref z) .none) _ _ s
  refine wpAny_bind ?_
  unfold Builtin.List.listItems
  refine wpAny_bind (wpAny_seqItems hS0 rfl (wpAny_pure ?_))
  show wpAny _ A.in1 (updateSeq S (fun _ => #[]) >>= fun _ => letGo (#[] : Array Value).toList.reverse >>= fun _ => Builtin.List.listExtendWith (.ref S) (.ref z) .none) _ _ s
  refine wpAny_bind (wpAny_updateSeq hS0 rfl ?_)
  have hS2 := Heap.get?_update_self (Obj.mapSeq (fun _ => (#[] : Array Value))) hS0 rfl
  have L2 := upd0 s.heap 0 (fun _ => #[]) L ⟨_, hS2⟩
  refine wpAny_bind (wpAny_letGo ?_)
  have tz : Shared.TypeIs { s with heap := s.heap.update S (Obj.mapSeq (fun _ => (#[] : Array Value))) } (.ref z) "zip" := by
    rcases L2.hz with ⟨q1, _⟩ | ⟨T, f, oT, q1, _⟩
    · exact ⟨_, q1, rfl⟩
    · exact ⟨_, q1, rfl⟩
  unfold Builtin.List.listExtendWith
  refine wpAny_bind (wpAny_typeOf tz ?_)
  have h1 : Builtin.List.listSameRef (.ref S) (.ref z) = false := by simp [Builtin.List.listSameRef, Z.Sz]
  have h2 : (Value.type "zip" == Value.type "list") = false := by decide
  have h3 : (Value.type "zip" == Value.type "tuple") = false := by decide
  simp only [h1, h2, h3, Bool.or_false, Bool.false_eq_true, if_false]
  have iz : ∀ {Q : Value → Shared → Prop} {E : Value → Shared → Prop}, Q (.ref z) { s with heap := s.heap.update S (Obj.mapSeq (fun _ => (#[] : Array Value))) } → wpAny (model prog w) A.in1 (pyIter (.ref z)) Q E { s with heap := s.heap.update S (Obj.mapSeq (fun _ => (#[] : Array Value))) } := fun {Q E} q => by
    exact wpAny_pyIter_zip (show IsZip (s.heap.update S (Obj.mapSeq (fun _ => (#[] : Array Value)))) z TI TO .none from (Heap.get?_update_other _ _ Z.Sz).trans q0) q
  refine wpAny_bind (iz ?_)
  refine wpAny_bind (wpAny_holding ?_)
  unfold Builtin.List.listLengthHint
  refine wpAny_bind (wpAny_specialOf tz zip_no_len ?_)
  show wpAny _ A.in1 (specialOf (Value.ref z) (Str.ofString "__length_hint__") >>= _) _ _ _
  refine wpAny_bind (wpAny_specialOf tz zip_no_hint ?_)
  refine wpAny_pure ?_
  show wpAny _ A.in1 (rule "list.extend.makes-room" >>= fun _ => Builtin.List.listTouch (.ref S) >>= fun _ =>
    again (.builtin "list.extend.loop" ⟨[.ref S, .ref z, .none], []⟩)) _ _ _
  refine wpAny_bind (wpAny_rule ?_)
  refine wpAny_bind ?_
  show wpAny _ A.in1 (updateSeq S (·.push .none) >>= fun _ => updateSeq S (·.pop)) _ _ _
  refine wpAny_bind (wpAny_updateSeq hS2 rfl ?_)
  have hS3 := Heap.get?_update_self (Obj.mapSeq (·.push Value.none)) hS2 rfl
  refine wpAny_updateSeq (hz := by seq_fits) hS3 rfl ?_
  have hS4 := Heap.get?_update_self (Obj.mapSeq (·.pop)) hS3 rfl
  have oth : ∀ b o, b ≠ S → s.heap.get? b = some o → (((s.heap.update S (Obj.mapSeq (fun _ => (#[] : Array Value)))).update S (Obj.mapSeq (·.push Value.none))).update S (Obj.mapSeq (·.pop))).get? b = some o :=
    fun b o hb e => (Heap.get?_update_other _ _ (Ne.symm hb)).trans ((Heap.get?_update_other _ _ (Ne.symm hb)).trans ((Heap.get?_update_other _ _ (Ne.symm hb)).trans e))
  have L4 : ZL z TI TO i1 i2 l1 l2 S N xs ys 0 [] (((s.heap.update S (Obj.mapSeq (fun _ => (#[] : Array Value)))).update S (Obj.mapSeq (·.push Value.none))).update S (Obj.mapSeq (·.pop))) := by
    refine ⟨oth _ _ (Ne.symm Z.STI) L.hTI, L.h1.at fun o e => oth _ o (Ne.symm Z.Si1) e, L.h2.at fun o e => oth _ o (Ne.symm Z.Si2) e, L.hl1.at fun o e => oth _ o (Ne.symm Z.Sl1) e, L.hl2.at fun o e => oth _ o (Ne.symm Z.Sl2) e, ?_, ⟨_, hS4⟩, rfl, (fun j T e => by simp at e), List.nodup_nil, fun T hT => nomatch hT⟩
    rcases L.hz with ⟨q1, a, b, q2⟩ | ⟨T, f, oT, q1, q2, q3, q4, q5, q6⟩
    · exact .inl ⟨oth _ _ (Ne.symm Z.Sz) q1, a, b, oth _ _ (Ne.symm Z.STO) q2⟩
    · exact .inr ⟨T, f, oT, oth _ _ (Ne.symm Z.Sz) q1, oth _ _ q6 q2, q3, q4, q5, q6⟩
  refine wpAny_pure ⟨plainId_quiet F.plain_extend_loop _, lz_loop hh Z hn _ _ 0 _ [] rfl (Nat.zero_le _) L4 (by show N ≤ Array.size _; rw [Heap.size_update, Heap.size_update, Heap.size_update]; exact hN) fun h' Ts' k1 k2 k3 k4 k5 k6 => ?_⟩
  exact hR h' Ts' k1 k2 k3 k4 k5 fun c o c1 c2 c3 c4 c5 e => k6 c o c1 c2 c3 c4 c5 (oth c o c5 e)
/-- list of a zip just made -/
theorem call_list_zip {Q : Value → Shared → Prop} (hh : A.handled = none) (D : ZipApart z TI TO i1 i2 l1 l2) (hn : min xs.size ys.size ≤ sizeLine) (hz : IsZip s.heap z TI TO .none) (hTI : IsPair s.heap TI (.ref i1) (.ref i2)) (hTO : IsPair s.heap TO .none .none)
    (h1 : s.heap.IsListIter i1 l1 0) (h2 : s.heap.IsListIter i2 l2 0) (hl1 : s.heap.IsList l1 xs) (hl2 : s.heap.IsList l2 ys)
    (hQ : ∀ (h' : Heap) (Ts : List Addr), (∃ c, h'.get? s.heap.objs.size = some { cls := .type "list", dict := none, data := .seq (Ts.map Value.ref).toArray c, slots := #[] }) → Ts.length = min xs.size ys.size →
      (∀ (j : Nat) (T : Addr), Ts[j]? = some T → ∃ x y, xs[j]? = some x ∧ ys[j]? = some y ∧ IsPair h' T x y) → Ts.Nodup → (∀ T ∈ Ts, s.heap.objs.size + 1 ≤ T) →
      (∀ c o, c ≠ z → c ≠ TO → c ≠ i1 → c ≠ i2 → s.heap.get? c = some o → h'.get? c = some o) → Q (.ref s.heap.objs.size) { s with heap := h' }) :
    wpAny (model prog w) A (call (.type "list") [.ref z]) Q E s := by
  have lt : ∀ {c o}, s.heap.get? c = some o → c < s.heap.objs.size := fun e => Heap.lt_size e
  have lz := lt hz
  have lTI := lt hTI
  have lTO := lt hTO
  have li1 : i1 < s.heap.objs.size := let ⟨_, e, _⟩ := h1; lt e
  have li2 : i2 < s.heap.objs.size := let ⟨_, e, _⟩ := h2; lt e
  have ll1 : l1 < s.heap.objs.size := let ⟨_, e, _⟩ := hl1; lt e
  have ll2 : l2 < s.heap.objs.size := let ⟨_, e, _⟩ := hl2; lt e
  refine callType_codes (Q₁ := fun obj s₁ => obj = .ref s.heap.objs.size ∧ s₁ = { s with heap := s.heap.push { cls := .type "list", data := .seq #[] } }) F.called_list (F.typeCall_list_1 _) F.entry_list_init
    (code_list_new _ ⟨rfl, rfl⟩) fun obj s₁ h₁ => ?_
  obtain ⟨rfl, rfl⟩ := h₁
  have hS : (s.heap.push { cls := .type "list", data := .seq #[] }).get? s.heap.objs.size = some { cls := .type "list", data := .seq #[] } := Heap.get?_push_size _ rfl
  have up : ∀ c o, s.heap.get? c = some o → (s.heap.push { cls := .type "list", data := .seq #[] }).get? c = some o := fun c o e => Heap.get?_push_of_some _ e
  have Z : ZN z TI TO i1 i2 l1 l2 s.heap.objs.size (s.heap.objs.size + 1) := ⟨D, Nat.ne_of_gt lz, Nat.ne_of_gt lTI, Nat.ne_of_gt lTO, Nat.ne_of_gt li1, Nat.ne_of_gt li2, Nat.ne_of_gt ll1, Nat.ne_of_gt ll2, Nat.lt_succ_of_lt lz, Nat.lt_succ_of_lt lTO, Nat.lt_succ_of_lt li1, Nat.lt_succ_of_lt li2, Nat.lt_succ_self _⟩
  refine ⟨⟨_, hS, rfl⟩, F.args_list_init_2 _ _, lz_init (s := { s with heap := s.heap.push { cls := .type "list", data := .seq #[] } }) (show A.in1.handled = none from hh) Z hn
    ⟨up _ _ hTI, h1.at fun o e => up _ o e, h2.at fun o e => up _ o e, hl1.at fun o e => up _ o e, hl2.at fun o e => up _ o e, .inl ⟨up _ _ hz, _, _, up _ _ hTO⟩, ⟨_, hS⟩, rfl, (fun j T e => by simp at e), List.nodup_nil, fun T hT => nomatch hT⟩ (up _ _ hz) hS
    (by show _ ≤ (s.heap.push _).objs.size; rw [Heap.size_push]; exact Nat.le_refl _) fun h' Ts' k1 k2 k3 k4 k5 k6 => ⟨rfl, hQ h' Ts' k1 k2 k3 k4 k5 fun c o c1 c2 c3 c4 e => k6 c o c1 c2 c3 c4 (Nat.ne_of_lt (lt e)) (up c o e)⟩⟩
end
/-! ### in the abstract heap -/
/-- an object of ours that stands already is tracked from here on -/
theorem inv_found {X : Cx} {pins : List (Addr × Obj)} {σ : L2.St} {H : Hp} {s : Shared} {T : Addr} {ob : HO} (I : Inv X pins σ H s) (hf : FpOk X pins H T) (new : ObjOk X.prog X.w (upd H T ob) s.heap T ob) : Inv X pins σ (upd H T ob) s := by
  have hn := hf.1
  refine I.step (g' := s.gens) (d' := s.drawn) (t' := s.toks) (h' := s.heap) (ch := [T]) (fun b hb => ?_) (fun b o _ _ _ e _ => e) (fun b o _ _ _ e _ => ⟨o.slots, e⟩)
    (fun b o hc e n => ?_) (fun b o hc e => ⟨o, e⟩) (fun b xs e => ?_) (fun b o u e => ?_) (fun b ps e => ⟨#[], ?_⟩) (fun m hm => hm) (fun b u e => ?_) I.bare
  · have e : b = T := by simpa using hb
    subst e
    exact ⟨hf.2.2.2.1, hf.2.1, hf.2.2.2.2.1, hf.2.2.2.2.2⟩
  · rw [upd_ne (fun z => hc (by simp [z]))]; exact n
  · rw [upd_ne (ne_of_none e hn)]; exact e
  · rw [upd_ne (ne_of_none e hn)]; exact e
  · rw [upd_ne (ne_of_none e hn), e]; simp
  · by_cases hb : b = T
    · subst hb; rw [upd_same] at e; cases e; exact new
    · rw [upd_ne hb] at e
      exact (I.hok b u e).stay (fun c v _ q => q) (fun c q => by rw [upd_ne (ne_of_none q hn)]; exact q) fun c xs q => by rw [upd_ne (ne_of_none q hn)]; exact q
/-- the pairs laid into the heap -/
def updP : Hp → List Addr → List V → List V → Hp
  | H, T :: Ts, x :: xs, y :: ys => updP (upd H T (.tup [x, y])) Ts xs ys
  | H, _, _, _ => H
theorem updP_out : ∀ (Ts : List Addr) (xs ys : List V) (H : Hp) (a : Addr), a ∉ Ts → updP H Ts xs ys a = H a
  | [], _, _, _, _, _ => by unfold updP; rfl
  | T :: Ts, [], _, _, _, _ => by unfold updP; rfl
  | T :: Ts, x :: xs, [], _, _, _ => by unfold updP; rfl
  | T :: Ts, x :: xs, y :: ys, H, a, h => by
    have h1 : a ≠ T := fun e => h (by simp [e])
    show updP (upd H T (.tup [x, y])) Ts xs ys a = H a
    rw [updP_out Ts xs ys _ a (fun e => h (by simp [e])), upd_ne h1]
theorem inv_foundP {X : Cx} {pins : List (Addr × Obj)} {σ : L2.St} {s : Shared} : ∀ (Ts : List Addr) (xs ys : List V) (us vs : List Value) {H : Hp}, Inv X pins σ H s → (∀ T ∈ Ts, ∀ H' : Hp, H' T = none → FpOk X pins H' T) → (∀ T ∈ Ts, H T = none) → Ts.Nodup → Vals xs us → Vals ys vs →
    (∀ (j : Nat) (T : Addr), Ts[j]? = some T → ∃ x y, us[j]? = some x ∧ vs[j]? = some y ∧ IsPair s.heap T x y) → Inv X pins σ (updP H Ts xs ys) s
  | [], _, _, _, _, _, I, _, _, _, _, _, _ => by unfold updP; exact I
  | T :: Ts, [], _, _, _, _, I, _, _, _, _, _, _ => by unfold updP; exact I
  | T :: Ts, x :: xs, [], _, _, _, I, _, _, _, _, _, _ => by unfold updP; exact I
  | T :: Ts, x :: xs, y :: ys, us, vs, H, I, hf, hn, nd, rx, ry, hp => by
    cases rx with
    | cons r rr =>
      rename_i u us
      cases ry with
      | cons r' rr' =>
        rename_i v vs
        obtain ⟨x', y', e1, e2, p⟩ := hp 0 T rfl
        cases e1; cases e2
        have hnT := hn T (by simp)
        have I1 := inv_found I (ob := .tup [x, y]) (hf T (by simp) H hnT) ⟨by show 2 ≤ sizeLine; decide, [u, v], .cons r (.cons r' .nil), ⟨_, p, rfl, _, rfl⟩⟩
        have nd' := List.nodup_cons.mp nd
        exact inv_foundP Ts xs ys us vs I1 (fun a ha => hf a (by simp [ha])) (fun a ha => by rw [upd_ne (fun e => nd'.1 (by rw [← e]; exact ha))]; exact hn a (by simp [ha])) nd'.2 rr rr' fun j a ha => hp (j + 1) a ha
theorem Stt.pairs {K : PySem.W.Frag} {b : Bs} {σ : L2.St} {env : En} : ∀ (Ts : List Addr) (xs ys : List V) (ds es : List PyData) {F H : Hp}, Stt K b F σ H env → (∀ T ∈ Ts, H T = none) → Ts.Nodup → Ts.length = min xs.length ys.length → RvAll K F xs ds → RvAll K F ys es →
    ∃ F', Same F F' ∧ Stt K b F' σ (updP H Ts xs ys) env ∧ RvAll K F' (Ts.map .ref) (zipL ds es)
  | [], xs, ys, ds, es, F, H, S, _, _, hl, r1, r2 => by
    have e : zipL ds es = [] := by
      have a1 := r1.length
      have a2 := r2.length
      cases ds with
      | nil => simp [zipL]
      | cons d ds => cases es with
        | nil => simp [zipL]
        | cons e es => simp at a1 a2 hl; omega
    rw [e]
    unfold updP
    exact ⟨F, Same.refl F, S, .nil⟩
  | T :: Ts, xs, ys, ds, es, F, H, S, hn, nd, hl, r1, r2 => by
    cases r1 with
    | nil => simp at hl
    | cons q1 r1 =>
      cases r2 with
      | nil => simp at hl
      | cons q2 r2 =>
        have nd' := List.nodup_cons.mp nd
        obtain ⟨j1, j2, j3⟩ := S.mkT (hn T (by simp)) (.cons q1 (.cons q2 .nil))
        obtain ⟨F', k1, k2, k3⟩ := Stt.pairs Ts _ _ _ _ j2 (fun a ha => by rw [upd_ne (fun e => nd'.1 (by rw [← e]; exact ha))]; exact hn a (by simp [ha])) nd'.2 (by simp at hl; omega) (r1.mono j1) (r2.mono j1)
        exact ⟨F', j1.trans k1, k2, .cons (j3.mono k1) k3⟩
def tLzip (K : PySem.W.Frag) (ta : TA) : TE := fun σ H Q => ta σ H fun vs H1 => ∃ (a b : Addr) (xs ys : List V), vs = [.ref a, .ref b] ∧ SqL K H1 a xs ∧ SqL K H1 b ys ∧
  ∀ (Ts : List Addr) (l : Addr), Ts.Nodup → l ∉ Ts → (∀ T ∈ Ts, H1 T = none) → H1 l = none → Ts.length = min xs.length ys.length → Q (.ref l) (upd (updP H1 Ts xs ys) l (.lst (Ts.map .ref)))
theorem vals_refs : ∀ (Ts : List Addr), Vals (Ts.map V.ref) (Ts.map Value.ref)
  | [] => .nil
  | T :: Ts => .cons rfl (vals_refs Ts)
theorem pe_lzip {X : Cx} {e f : Expr} {ta : TA} {p p2 pos pos2 : Pos} (hc : X.calm = true) (hg : Gl X "zip") (hm : X.mg "zip" = none) (hg2 : Gl X "list") (hm2 : X.mg "list" = none) (ha : PA X [e, f] ta)
    (hs : starEach [e, f] X.env = (false, eval e X.env) :: starEach [f] X.env) (hpl : (backTo pos2 (starEach [f] X.env)).any (·.1) = false)
    (na : starEach [.Call (.Name "zip" p2) [e, f] [] pos2] X.env = (false, eval (.Call (.Name "zip" p2) [e, f] [] pos2) X.env) :: starEach [] X.env) : PE X (.Call (.Name "list" p) [.Call (.Name "zip" p2) [e, f] [] pos2] [] pos) (tLzip X.K ta) := by
  refine ⟨fun pins s σ H Q I h => ?_⟩
  refine Call_ (ld_blt I hg2 hm2 boot_list ?_)
  refine PyProof.Rows.callWith_type1 (PyProof.Rows.args_cons ?_ na) na rfl
  refine Call_ (ld_blt I hg hm PyProof.Rows.boot_zip (PyProof.Rows.callWith_type1 (thn (ha.run pos2 pins s σ H _ I h) fun us s1 ⟨vs, H1, I1, r1, q1⟩ => ?_) hs hpl))
  obtain ⟨a, b, xs, ys, ex, hqx, hqy, q⟩ := q1
  subst ex
  cases r1 with
  | cons r rr =>
    cases rr with
    | cons r' rr =>
      cases rr
      cases r
      cases r'
      obtain ⟨its, rv, p1, hz1⟩ := I1.list hqx
      obtain ⟨its2, rv2, p2', hz2⟩ := I1.list hqy
      have la := rv.length
      have lb := rv2.length
      refine call_zip_2 p1.isList p2'.isList fun h' hz hTI hTO g1 g2 hsz hk => PyProof.Rows.args_nil ?_
      have mn : min its.toArray.size its2.toArray.size = min xs.length ys.length := by simp [← la, ← lb]
      refine call_list_zip (s := { s1 with heap := h' }) (I1.ok.hd hc) (PySem.W.ktu_apart s1.heap.objs.size a b p1.lt p2'.lt) (by rw [mn]; omega) hz hTI hTO g1 g2 (p1.isList.at fun o e => hk _ o e) (p2'.isList.at fun o e => hk _ o e) fun h2 Ts ⟨c, hS⟩ k2 k3 k4 k5 k6 => ?_
      rw [mn] at k2
      have I2 : Inv X pins σ H1 { s1 with heap := h2 } := I1.kept (t' := s1.toks) fun b o e => by
        have hb := Heap.lt_size e
        exact k6 b o (Nat.ne_of_lt (Nat.lt_of_lt_of_le hb (Nat.le_add_right _ _))) (Nat.ne_of_lt (Nat.lt_of_lt_of_le hb (Nat.le_add_right _ _))) (Nat.ne_of_lt hb) (Nat.ne_of_lt (Nat.lt_of_lt_of_le hb (Nat.le_add_right _ _))) (hk b o e)
      have big : ∀ T ∈ Ts, s1.heap.objs.size ≤ T := fun T hT => by
        have := k5 T hT
        have e : Array.size (Heap.objs (Shared.heap { s1 with heap := h' })) = s1.heap.objs.size + 5 := hsz
        omega
      have hl : s1.heap.objs.size ≤ h'.objs.size := by rw [hsz]; omega
      have hlT : h'.objs.size ∉ Ts := fun hm => by have := k5 _ hm; exact absurd this (by show ¬ (h'.objs.size + 1 ≤ h'.objs.size); omega)
      have fn : ∀ T, s1.heap.objs.size ≤ T → H1 T = none := fun T hT => I1.hok.fresh hT
      have I3 := inv_foundP Ts xs ys its its2 I2 (fun T hT H' hn => I1.fpOk (big T hT) hn) (fun T hT => fn T (big T hT)) k4 rv rv2 (fun j T e => by
        obtain ⟨x, y, e1, e2, pp⟩ := k3 j T e
        exact ⟨x, y, by simpa using e1, by simpa using e2, pp⟩)
      have hno : updP H1 Ts xs ys h'.objs.size = none := by rw [updP_out _ _ _ _ _ hlT]; exact fn _ hl
      have I4 := inv_found I3 (ob := .lst (Ts.map .ref)) (I1.fpOk (H' := updP H1 Ts xs ys) hl hno) ⟨by rw [List.length_map, k2]; omega, Ts.map .ref, c, vals_refs Ts, hS⟩
      exact ⟨.ref h'.objs.size, _, I4, rfl, q Ts h'.objs.size k4 hlT (fun T hT => fn T (big T hT)) (fn _ hl) k2⟩
section
variable {X : Cx} {b : Bs} {e f : Expr} {env e1 e2 : En}
theorem be_lzip {p p2 pos pos2 : Pos} {xs ys : List PyData} (hc : X.calm = true) (hg : Gl X "zip") (hm : X.mg "zip" = none) (hg2 : Gl X "list") (hm2 : X.mg "list" = none) (ha : BE X b e env (.list xs) false e1) (hb : BE X b f e1 (.list ys) false e2)
    (hs : starEach [e, f] X.env = (false, eval e X.env) :: starEach [f] X.env) (hs2 : starEach [f] X.env = [(false, eval f X.env)]) (hpl : (backTo pos2 (starEach [f] X.env)).any (·.1) = false) :
    BE X b (.Call (.Name "list" p) [.Call (.Name "zip" p2) [e, f] [] pos2] [] pos) env (.list (zipL xs ys)) true e2 := fun F σ H S Q q => by
  refine we_of (pe_lzip hc hg hm hg2 hm2 (pa_cons (pe_we e) (pa_cons (pe_we f) pa_nil hs2) hs) hs hpl (by rfl)) (ha F σ H S _ fun v F1 H1 k1 S1 r => hb F1 σ H1 S1 _ fun v2 F2 H2 k2 S2 r2 => ?_)
  have r' := Rv.mono k2 r
  cases r' with
  | lst hq ra =>
    cases r2 with
    | lst hq2 rb =>
      refine ⟨_, _, _, _, rfl, SqL.of (S2.fh _ _ hq), SqL.of (S2.fh _ _ hq2), fun Ts l nd hl hT hln hlen => ?_⟩
      obtain ⟨F3, k3, S3, r3⟩ := Stt.pairs Ts _ _ _ _ S2 hT nd hlen ra rb
      obtain ⟨j1, j2⟩ := S3.mkL (p := l) (by rw [updP_out _ _ _ _ _ hl]; exact hln) r3
      exact q _ F3 _ ((k1.trans k2).trans k3) j1 j2
end
end Mi

set_option maxHeartbeats 2000000
/-! D18e: repr of data. -/
namespace Mi
open PySem PySem.Spec PyProof.Rows L2
open PySem.Sem (wp)
mutual
/-- v reads as d; no dict of it is the table of the modules -/
inductive Shw (h : Heap) : Value → PyData → Prop
  | non : Shw h .none .none
  | bl (b : Bool) : Shw h (.bool b) (.bool b)
  | int (i : Int) (t : Tok) : Shw h (.int i t) (.int i)
  | str (x : Str) (t : Tok) : Shw h (.str x t) (.str x)
  | lst {a : Addr} {o : Obj} {vs : Array Value} {n : Nat} {xs : List PyData} : h.get? a = some o → o.cls = .type "list" → o.data = .seq vs n → ShwAll h vs.toList xs → Shw h (.ref a) (.list xs)
  | tup {a : Addr} {o : Obj} {vs : Array Value} {n : Nat} {xs : List PyData} : h.get? a = some o → o.cls = .type "tuple" → o.data = .seq vs n → ShwAll h vs.toList xs → Shw h (.ref a) (.tuple xs)
  | dct {a : Addr} {o : Obj} {es : Array DictEntry} {n : Nat} {kvs : List (PyData × PyData)} : h.get? a = some o → o.cls = .type "dict" → o.data = .dict es n → (a == sysModules) = false →
      ShwAll h (es.toList.map (·.key)) (kvs.map (·.1)) → ShwAll h (es.toList.map (·.val)) (kvs.map (·.2)) → Shw h (.ref a) (.dict kvs)
inductive ShwAll (h : Heap) : List Value → List PyData → Prop
  | nil : ShwAll h [] []
  | cons {v : Value} {vs : List Value} {d : PyData} {ds : List PyData} : Shw h v d → ShwAll h vs ds → ShwAll h (v :: vs) (d :: ds)
end
mutual
theorem Shw.reads {h : Heap} : ∀ {v : Value} {d : PyData}, Shw h v d → ∃ as, Reads h v d as
  | _, _, .non => ⟨_, .none⟩
  | _, _, .bl b => ⟨_, .bool b⟩
  | _, _, .int i t => ⟨_, .int i t⟩
  | _, _, .str x t => ⟨_, .str x t⟩
  | _, _, .lst h1 h2 h3 r => let ⟨_, q⟩ := ShwAll.reads r; ⟨_, .list h1 h2 h3 q⟩
  | _, _, .tup h1 h2 h3 r => let ⟨_, q⟩ := ShwAll.reads r; ⟨_, .tuple h1 h2 h3 q⟩
  | _, _, .dct h1 h2 h3 _ r1 r2 => let ⟨_, q1⟩ := ShwAll.reads r1; let ⟨_, q2⟩ := ShwAll.reads r2; ⟨_, .dict h1 h2 h3 q1 q2⟩
theorem ShwAll.reads {h : Heap} : ∀ {vs : List Value} {ds : List PyData}, ShwAll h vs ds → ∃ as, ReadsAll h vs ds as
  | _, _, .nil => ⟨_, .nil⟩
  | _, _, .cons r rs => let ⟨_, q1⟩ := Shw.reads r; let ⟨_, q2⟩ := ShwAll.reads rs; ⟨_, .cons q1 q2⟩
end
section
variable {prog : Program} {w : World} {h₀ : Heap}
mutual

theorem reprK_shw : ∀ {v : Value} {d : PyData}, Shw h₀ v d → d.showable = true → d.shown.length ≤ sizeLine → ∃ bs, ReadAtMost h₀ d.depth bs ∧ ReprK prog w bs h₀ d.depth v d.shown
  | _, _, .non, _, _ => ⟨[], (fun _ h => nomatch h), by simp only [PyData.shown]; exact .of_is ReprIs.none _ _ _⟩
  | _, _, .bl b, _, _ => ⟨[], (fun _ h => nomatch h), by simp only [PyData.shown]; exact .of_is (ReprIs.bool b) _ _ _⟩
  | _, _, .int i t, hs, _ => ⟨[], (fun _ h => nomatch h), by simp only [PyData.shown]; exact .of_is (ReprIs.int t (by simpa [PyData.showable] using hs)) _ _ _⟩
  | _, _, .str x t, _, hz => ⟨[], (fun _ h => nomatch h), by simp only [PyData.shown]; exact .of_is (ReprIs.str x t (by simpa only [PyData.shown] using hz)) _ _ _⟩
  | _, _, .lst (a := a) (vs := vs) (xs := xs) h1 h2 h3 h4, hs, hz => by
    have hz' : (listText (PyData.shownAll xs)).length ≤ sizeLine := by simpa only [PyData.shown] using hz
    obtain ⟨bs, hb, hk⟩ := reprAllK_shw h4 (by simpa [PyData.showable] using hs) (fun t ht => Nat.le_trans (listText_mem_le ht) hz')
    obtain ⟨_, rs⟩ := ShwAll.reads h4
    have r : Reads h₀ (.ref a) (.list xs) _ := .list h1 h2 h3 rs
    have hna : a ∉ bs := not_mem_of_deeper r (by simp only [PyData.depth]; omega) hb
    refine ⟨a :: bs, ReadAtMost.cons r (by simp only [PyData.depth]; omega) hb, ?_⟩
    simp only [PyData.depth, PyData.shown]
    obtain ⟨l⟩ := vs
    cases l with
    | nil =>
      have h4' : ShwAll h₀ [] xs := h4
      cases h4'
      simp only [PyData.shownAll, listText_nil]
      exact ReprK.listEmpty h1 h2 h3
    | cons x l => exact ReprK.list h1 h2 h3 hna (by simpa using hk.length_eq) (fun i y e => hk.item i y (by simpa using e))
  | _, _, .tup (a := a) (xs := xs) h1 h2 h3 h4, hs, hz => by
    have hz' : (tupleText (PyData.shownAll xs)).length ≤ sizeLine := by simpa only [PyData.shown] using hz
    obtain ⟨bs, hb, hk⟩ := reprAllK_shw h4 (by simpa [PyData.showable] using hs) (fun t ht => Nat.le_trans (tupleText_mem_le ht) hz')
    obtain ⟨_, rs⟩ := ShwAll.reads h4
    have r : Reads h₀ (.ref a) (.tuple xs) _ := .tuple h1 h2 h3 rs
    have hna : a ∉ bs := not_mem_of_deeper r (by simp only [PyData.depth]; omega) hb
    refine ⟨a :: bs, ReadAtMost.cons r (by simp only [PyData.depth]; omega) hb, ?_⟩
    simp only [PyData.depth, PyData.shown]
    exact ReprK.tuple h1 h2 h3 hna hk
  | _, _, .dct (a := a) (es := es) (kvs := kvs) h1 h2 h3 hsys h4 h5, hs, hz => by
    have hz' : (dictText (PyData.shownKv kvs)).length ≤ sizeLine := by simpa only [PyData.shown] using hz
    obtain ⟨hs1, hs2⟩ := PyData.showableKv_split kvs (by simpa [PyData.showable] using hs)
    obtain ⟨b1, hb1, k1⟩ := reprAllK_shw h4 hs1 (fun t ht => let ⟨p, hp, hl⟩ := PyData.shownKv_key_le kvs t ht; Nat.le_trans hl (Nat.le_trans (dictText_mem_le hp) hz'))
    obtain ⟨b2, hb2, k2⟩ := reprAllK_shw h5 hs2 (fun t ht => let ⟨p, hp, hl⟩ := PyData.shownKv_val_le kvs t ht; Nat.le_trans hl (Nat.le_trans (dictText_mem_le hp) hz'))
    obtain ⟨_, rs⟩ := ShwAll.reads h4
    obtain ⟨_, rs'⟩ := ShwAll.reads h5
    have r : Reads h₀ (.ref a) (.dict kvs) _ := .dict h1 h2 h3 rs rs'
    have hb : ReadAtMost h₀ (PyData.depthKv kvs) (b1 ++ b2) := (hb1.mono (PyData.depthAll_keys_le kvs)).append (hb2.mono (PyData.depthAll_vals_le kvs))
    have hna : a ∉ b1 ++ b2 := not_mem_of_deeper r (by simp only [PyData.depth]; omega) hb
    refine ⟨a :: (b1 ++ b2), ReadAtMost.cons r (by simp only [PyData.depth]; omega) hb, ?_⟩
    simp only [PyData.depth, PyData.shown, PyData.shownKv_eq]
    exact ReprK.dict h1 h2 h3 hsys hna (ReprEntriesK.of_two es.toList _ _
      (k1.more_le (fun b hb => List.mem_append_left _ hb) (PyData.depthAll_keys_le kvs)) (k2.more_le (fun b hb => List.mem_append_right _ hb) (PyData.depthAll_vals_le kvs)))
theorem reprAllK_shw : ∀ {vs : List Value} {ds : List PyData}, ShwAll h₀ vs ds → PyData.showableAll ds = true → (∀ t ∈ PyData.shownAll ds, t.length ≤ sizeLine) →
    ∃ bs, ReadAtMost h₀ (PyData.depthAll ds) bs ∧ ReprAllK prog w bs h₀ (PyData.depthAll ds) vs (PyData.shownAll ds)
  | _, _, .nil, _, _ => ⟨[], (fun _ h => nomatch h), by simp only [PyData.shownAll]; exact .nil⟩
  | _, _, .cons (d := d) (ds := ds) r rs, hs, hz => by
    have hs' : d.showable = true ∧ PyData.showableAll ds = true := by simpa [PyData.showableAll] using hs
    obtain ⟨b1, hb1, k1⟩ := reprK_shw r hs'.1 (hz _ (by simp only [PyData.shownAll]; exact List.mem_cons_self ..))
    obtain ⟨b2, hb2, k2⟩ := reprAllK_shw rs hs'.2 (fun t ht => hz t (by simp only [PyData.shownAll]; exact List.mem_cons_of_mem _ ht))
    refine ⟨b1 ++ b2, ?_, ?_⟩
    · intro b hm
      simp only [PyData.depthAll]
      rcases List.mem_append.mp hm with hm | hm
      · obtain ⟨d', as', r', hd'⟩ := hb1 b hm
        exact ⟨d', as', r', Nat.le_trans hd' (Nat.le_max_left _ _)⟩
      · obtain ⟨d', as', r', hd'⟩ := hb2 b hm
        exact ⟨d', as', r', Nat.le_trans hd' (Nat.le_max_right _ _)⟩
    · simp only [PyData.depthAll, PyData.shownAll]
      exact .cons ((k1.more fun b hb => List.mem_append_left _ hb).level_le (Nat.le_max_left _ _)) (k2.more_le (fun b hb => List.mem_append_right _ hb) (Nat.le_max_right _ _))
end

end
section
variable {prog : Program} {w : World} {h₀ : Heap} {a : Addr} {d : PyData}
theorem showsBy_shw (r : Shw h₀ (.ref a) d) (hs : d.showable = true) (hsz : d.shown.length ≤ sizeLine) : ∃ T idr, ShowsBy prog w h₀ a d T idr := by
  cases r with
  | lst h1 h2 h3 h4 =>
    rename_i o vs n xs
    have hz' : (listText (PyData.shownAll xs)).length ≤ sizeLine := by simpa only [PyData.shown] using hsz
    obtain ⟨bs, hb, hk⟩ := reprAllK_shw (prog := prog) (w := w) h4 (by simpa [PyData.showable] using hs) (fun t ht => Nat.le_trans (listText_mem_le ht) hz')
    obtain ⟨_, rs⟩ := ShwAll.reads h4
    have hna : a ∉ bs := not_mem_of_deeper (.list h1 h2 h3 rs) (by simp only [PyData.depth]; omega) hb
    refine ⟨"list", "list.__repr__", F.slot_list_repr.toG, F.slot_list_str, F.slot_list_format, fun s hk0 => ⟨o, hk0 _ _ h1, h2⟩, fun A E s Q hg hu hk0 hQ => ?_⟩
    simp only [PyData.depth] at hu
    simp only [PyData.shown] at hQ
    obtain ⟨l⟩ := vs
    cases l with
    | nil =>
      have h4' : ShwAll h₀ [] xs := h4
      cases h4'
      simp only [PyData.shownAll, listText_nil] at hQ
      exact call_list_repr_empty ⟨o, hk0 _ _ h1, h2⟩ (hk0 _ _ h1) h3 (hQ s.heap _ _ fun _ _ e => e)
    | cons x l =>
      exact call_list_reprK h1 h2 h3 hna (by simpa using hk.length_eq) (fun i y e => hk.item i y (by simpa using e)) hg (fun b _ => Clear.nil b) hu hk0 hQ hz'
  | tup h1 h2 h3 h4 =>
    rename_i o vs n xs
    have hz' : (tupleText (PyData.shownAll xs)).length ≤ sizeLine := by simpa only [PyData.shown] using hsz
    obtain ⟨bs, hb, hk⟩ := reprAllK_shw (prog := prog) (w := w) h4 (by simpa [PyData.showable] using hs) (fun t ht => Nat.le_trans (tupleText_mem_le ht) hz')
    obtain ⟨_, rs⟩ := ShwAll.reads h4
    have hna : a ∉ bs := not_mem_of_deeper (.tuple h1 h2 h3 rs) (by simp only [PyData.depth]; omega) hb
    refine ⟨"tuple", "tuple.__repr__", F.slot_tuple_repr, F.slot_tuple_str, F.slot_tuple_format, fun s hk0 => ⟨o, hk0 _ _ h1, h2⟩, fun A E s Q hg hu hk0 hQ => ?_⟩
    simp only [PyData.depth] at hu
    simp only [PyData.shown] at hQ
    exact call_tuple_reprK h1 h2 h3 hna hk hg (fun b _ => Clear.nil b) hu hk0 hQ hz'
  | dct h1 h2 h3 hsys h4 h5 =>
    rename_i o es n kvs
    have hz' : (dictText (PyData.shownKv kvs)).length ≤ sizeLine := by simpa only [PyData.shown] using hsz
    obtain ⟨hs1, hs2⟩ := PyData.showableKv_split kvs (by simpa [PyData.showable] using hs)
    obtain ⟨b1, hb1, k1⟩ := reprAllK_shw (prog := prog) (w := w) h4 hs1 (fun t ht => let ⟨p, hp, hl⟩ := PyData.shownKv_key_le kvs t ht; Nat.le_trans hl (Nat.le_trans (dictText_mem_le hp) hz'))
    obtain ⟨b2, hb2, k2⟩ := reprAllK_shw (prog := prog) (w := w) h5 hs2 (fun t ht => let ⟨p, hp, hl⟩ := PyData.shownKv_val_le kvs t ht; Nat.le_trans hl (Nat.le_trans (dictText_mem_le hp) hz'))
    have hb : ReadAtMost h₀ (PyData.depthKv kvs) (b1 ++ b2) := (hb1.mono (PyData.depthAll_keys_le kvs)).append (hb2.mono (PyData.depthAll_vals_le kvs))
    obtain ⟨_, rs⟩ := ShwAll.reads h4
    obtain ⟨_, rs'⟩ := ShwAll.reads h5
    have hna : a ∉ b1 ++ b2 := not_mem_of_deeper (.dict h1 h2 h3 rs rs') (by simp only [PyData.depth]; omega) hb
    refine ⟨"dict", "dict.__repr__", F.slot_dict_repr, F.slot_dict_str, F.slot_dict_format, fun s hk0 => ⟨o, hk0 _ _ h1, h2⟩, fun A E s Q hg hu hk0 hQ => ?_⟩
    simp only [PyData.depth] at hu
    simp only [PyData.shown, PyData.shownKv_eq] at hQ
    exact call_dict_reprK h1 h2 h3 hsys hna (ReprEntriesK.of_two es.toList _ _
      (k1.more_le (fun b hb => List.mem_append_left _ hb) (PyData.depthAll_keys_le kvs)) (k2.more_le (fun b hb => List.mem_append_right _ hb) (PyData.depthAll_vals_le kvs))) hg (fun b _ => Clear.nil b) hu hk0 hQ (by rw [← PyData.shownKv_eq]; exact hz')

variable {A : Around} {E : Value → Shared → Prop} {s : Shared} {Q : Value → Shared → Prop}
theorem repr_shw (r : Shw h₀ (.ref a) d) (hs : d.showable = true) (hg : A.guards = some []) (hu : A.units + (d.depth + 1) < cLine) (hk0 : ∀ b o, h₀.get? b = some o → s.heap.get? b = some o)
    (hQ : ∀ h' u tk, (∀ b o, s.heap.get? b = some o → h'.get? b = some o) → Q (.str d.shown u) { s with heap := h', toks := tk })
    (hsz : d.shown.length ≤ sizeLine) : wpAny (model prog w) A (call (.builtin "repr") [.ref a]) Q E s := by
  obtain ⟨T, idr, S⟩ := showsBy_shw (prog := prog) (w := w) r hs hsz
  exact call_repr_slot (by omega) (S.typeIs s hk0) S.slotRepr (S.call A.in1 E s _ hg (by show A.units + 1 + d.depth < cLine; omega) hk0 fun h' u tk hk => ⟨_, _, rfl, hQ h' u tk hk⟩)
end
section
variable {X : Cx} {pins : List (Addr × Obj)} {σ : L2.St} {H F : Hp} {s : Shared}
mutual
theorem shw_of (I : Inv X pins σ H s) (e : Same F H) : ∀ {v : V} {d : PyData} {u : Value}, Rv X.K F v d → RelV v u → Shw s.heap u d
  | _, _, _, .non, r => by cases r; exact .non
  | _, _, _, .bl b, r => by cases r; exact .bl b
  | _, _, _, .int i, r => by obtain ⟨t, rfl⟩ := r; exact .int i t
  | _, _, _, .str x h, r => by obtain ⟨t, rfl⟩ := r; exact .str x t
  | _, _, _, .lst (a := a) h rs, r => by
    cases r
    obtain ⟨its, rv, p, _⟩ := I.list (SqL.of (e _ _ h))
    obtain ⟨o, n, g1, g2, g3, g4⟩ := p
    exact .lst g1 g2 g4 (by simpa using shwAll_of I e rs rv)
  | _, _, _, .tup (a := a) h rs, r => by
    cases r
    obtain ⟨its, rv, p, _⟩ := I.tuple (same_t e h)
    obtain ⟨o, g1, g2, n, g3⟩ := p
    exact .tup g1 g2 g3 (by simpa using shwAll_of I e rs rv)
  | _, _, _, .dct (a := a) h rs, r => by
    cases r
    obtain ⟨z, hy, vs, hv, o, es, ep, g1, g2, g3, _, g4, _⟩ := I.hok _ _ (e _ _ h)
    have k := shwKV_of I e rs hv g4
    exact .dct g1 g2.1 g3 hy k.1 k.2
theorem shwAll_of (I : Inv X pins σ H s) (e : Same F H) : ∀ {vs : List V} {ds : List PyData} {us : List Value}, RvAll X.K F vs ds → Vals vs us → ShwAll s.heap us ds
  | _, _, _, .nil, r => by cases r; exact .nil
  | _, _, _, .cons q qs, r => by
    cases r with
    | cons r rs => exact .cons (shw_of I e q r) (shwAll_of I e qs rs)
theorem shwKV_of (I : Inv X pins σ H s) (e : Same F H) : ∀ {kvs : List (Key × V)} {ds : List (PyData × PyData)} {vs : List (Key × Value)} {es : List DictEntry}, RvKV X.K F kvs ds → KV kvs vs → Pairs (mixKind X.prog X.w) es vs →
    ShwAll s.heap (es.map (·.key)) (ds.map (·.1)) ∧ ShwAll s.heap (es.map (·.val)) (ds.map (·.2))
  | _, _, _, _, .nil, r, p => by
    cases r
    cases p
    exact ⟨.nil, .nil⟩
  | _, _, _, _, .cons (k := k) g q qs, r, p => by
    cases r with
    | cons r rs =>
      cases p with
      | cons p1 p2 ps =>
        obtain ⟨k1, k2⟩ := shwKV_of I e qs rs ps
        refine ⟨.cons ?_ k1, .cons ?_ k2⟩
        · show Shw s.heap (DictEntry.key _) (keyD k)
          rw [← r.1] at p1
          rcases keyIs_shape p1 with ⟨i, t, e1, e2⟩ | ⟨x, t, e1, e2⟩
          · have e1 : k = Sum.inl i := e1
            rw [e1, e2]; exact .int i t
          · have e1 : k = Sum.inr x := e1
            rw [e1, e2]; exact .str x t
        · show Shw s.heap (DictEntry.val _) _
          rw [p2]; exact shw_of I e q r.2
end
end
section
variable {X : Cx} {b : Bs} {e : Expr} {env e1 : En}
theorem call_reprD {K : PySem.W.Frag} (hgd : X.A.guards = some []) (hu : X.A.units + 65 < cLine) (hK : X.K = K) : CallR X (.builtin "repr") (fun xs H Q => ∃ (v : V) (d : PyData) (F : Hp), xs = [v] ∧ Same F H ∧ Rv K F v d ∧ d.showable = true ∧ d.shown.length ≤ sizeLine ∧ d.depth ≤ 60 ∧ Q (.str d.shown) H) := by
  intro pins s σ H xs us Q I r h
  obtain ⟨v, d, F, rfl, hF, rv, h1, h2, h3, q⟩ := h
  subst hK
  obtain ⟨u, rfl, ru⟩ := vals1 r
  have sh := shw_of I hF rv ru
  cases rv with
  | non => cases ru; exact PySem.P.repr_of_none ⟨.str _, H, I.tok _, ⟨_, rfl⟩, q⟩
  | bl x => cases ru; exact PySem.P.repr_of_bool ⟨.str _, H, I.tok _, ⟨_, rfl⟩, q⟩
  | int i => obtain ⟨t, rfl⟩ := ru; exact PySem.P.repr_of_int (by simpa [PyData.showable] using h1) ⟨.str _, H, I.tok _, ⟨_, rfl⟩, q⟩
  | str x hx => obtain ⟨t, rfl⟩ := ru; exact PySem.P.repr_of_str ⟨.str _, H, I.tok _, ⟨_, rfl⟩, q⟩ (by simpa only [PyData.shown] using h2)
  | lst _ _ => cases ru; exact repr_shw sh h1 hgd (by omega) (fun _ _ x => x) (fun h' u tk hk => ⟨.str _, H, I.kept hk, ⟨_, rfl⟩, q⟩) h2
  | tup _ _ => cases ru; exact repr_shw sh h1 hgd (by omega) (fun _ _ x => x) (fun h' u tk hk => ⟨.str _, H, I.kept hk, ⟨_, rfl⟩, q⟩) h2
  | dct _ _ => cases ru; exact repr_shw sh h1 hgd (by omega) (fun _ _ x => x) (fun h' u tk hk => ⟨.str _, H, I.kept hk, ⟨_, rfl⟩, q⟩) h2
theorem RS.rvH {K : PySem.W.Frag} {F H : Hp} {v : V} {d : PyData} (e : Same F H) (r : RS K F H v d) : Rv K H v d := by
  cases r with
  | fz r => exact Rv.mono e r
  | ol h r => exact .lst h (r.mono e)
  | od h r => exact .dct h (r.mono e)
theorem be_repr {p pos : Pos} {d z : PyData} {oo : Op} (hgd : X.A.guards = some []) (hu : X.A.units + 65 < cLine) (hg : Gl X "repr") (hm : X.mg "repr" = none) (ha : BO X b e env oo e1) (rx : rdO e1 oo = some d) (h : reprF d = some z)
    (hs : starEach [e] X.env = [(false, eval e X.env)]) : BE X b (.Call (.Name "repr" p) [e] [] pos) env z false e1 := by
  have h : (if d.showable = true ∧ d.shown.length ≤ lim ∧ d.depth ≤ 60 then some (PyData.str d.shown) else none) = some z := h
  split at h
  · rename_i hh
    cases h
    exact fun F σ H S Q q => we_of (pe_callB (call_reprD hgd hu rfl) hg hm boot_repr (pa_cons (pe_we e) pa_nil hs) (by decide) (by decide) hs rfl) (ha F σ H S _ fun v F1 H1 k1 S1 o1 =>
      ⟨v, d, H1, rfl, Same.refl H1, (S1.rd o1 rx).rvH S1.fh, hh.1, by rw [← lim_eq]; exact hh.2.1, hh.2.2, q _ F1 H1 k1 S1 (.str _ hh.2.1)⟩)
  · cases h
end
end Mi

set_option maxHeartbeats 2000000
/-! D18: enumerate, zip, list(zip(..)), repr, len(set(..)), tuples turned about: the rules. -/
namespace Mi
open PySem PySem.Spec PyProof.Rows L2
section
variable {X : Cx} {b : Bs} {tg e f : Expr} {env e1 e2 : En} {K : PySem.W.Frag} {F : Hp}
theorem enumL_get : ∀ (ds : List PyData) (k i : Nat), (enumL k ds)[i]? = (ds[i]?).map fun d => .tuple [.int ((k + i : Nat) : Int), d]
  | [], k, i => by simp [enumL]
  | d :: ds, k, 0 => by simp [enumL]
  | d :: ds, k, i + 1 => by
    unfold enumL
    rw [List.getElem?_cons_succ, List.getElem?_cons_succ, enumL_get ds (k + 1) i]
    have : k + 1 + i = k + (i + 1) := by omega
    rw [this]
theorem enumL_len : ∀ (ds : List PyData) (k : Nat), (enumL k ds).length = ds.length
  | [], _ => rfl
  | d :: ds, k => by unfold enumL; rw [List.length_cons, List.length_cons, enumL_len ds]
theorem wk_enum_of {J : It} {G : Hp → Prop} {vs : List V} {ds : List PyData} (w : Walk J vs.length G (YPair (fun i => some (.int (i : Nat))) (fun i => vs[i]?))) (hG : ∀ H, Same F H → G H) (r : RvAll K F vs ds) : Wk K J F (enumL 0 ds) := by
  have w2 := w.mono (G' := fun H => Same F H) (Y' := fun i H x H' => ∃ d, (enumL 0 ds)[i]? = some d ∧ ItY K F H x H' d) hG fun i H x H' hi _ ⟨T, y, z, h1, h2, h3, h4, h5⟩ => by
    cases h4
    obtain ⟨d, k1, k2⟩ := r.getV h5
    refine ⟨.tuple [.int (i : Int), d], by rw [enumL_get, k1]; simp, .inr ⟨T, _, z, .int (i : Int), d, h1, h2, h3, .int _, k2, rfl⟩⟩
  unfold Wk
  rw [enumL_len, ← r.length]
  exact w2
theorem bi_enu {p pos tp : Pos} {elts : List Expr} {k : Nat} {d : PyData} {ds : List PyData} (hg : Gl X "enumerate") (hm : X.mg "enumerate" = none) (ha : BE X b e env d false e1) (h : d = .list ds ∨ d = .tuple ds) (hs : starEach [e] X.env = [(false, eval e X.env)]) :
    BI X b (.Tuple elts k tp) (.Call (.Name "enumerate" p) [e] [] pos) env (enumL 0 ds) e1 := fun F σ H S R q => by
  rcases h with rfl | rfl
  · exact wi_of (pi_enum hg hm (pa_cons (pe_we e) pa_nil hs) hs) (ha F σ H S _ fun v F1 H1 k1 S1 r => by
      cases r with
      | lst hq r => exact ⟨_, _, rfl, SqL.of (S1.fh _ _ hq), q _ F1 H1 k1 S1 (wk_enum_of walk_enum (fun H e => SqL.of (e _ _ hq)) r)⟩)
  · exact wi_of (pi_enumT hg hm (pa_cons (pe_we e) pa_nil hs) hs) (ha F σ H S _ fun v F1 H1 k1 S1 r => by
      cases r with
      | tup hq r => exact ⟨_, _, rfl, same_t S1.fh hq, q _ F1 H1 k1 S1 (wk_enum_of walk_enumT (fun H e => same_t e hq) r)⟩)
end
end Mi

set_option maxHeartbeats 2000000
/-! D19: is an expression of the text the one of the small language? (computed) -/
namespace Mi
open PySem PySem.Spec PyProof.Rows L2

/-- what is known of the module: the defs' names by their numbers, the ways in which they are called with keywords, constants -/
structure GT where
  fnm : List Str
  kws : List (Nat × List Str × List Nat)
  cst : List (Str × PyData)
def bltNames : List Str := ["len", "abs", "min", "max", "int", "bool", "str", "all", "any", "list", "tuple", "dict", "divmod", "repr", "isinstance", "range", "enumerate", "zip", "set"]
def sEq : PyData → PyData → Bool
  | .none, .none => true
  | .bool a, .bool b => a == b
  | .int a, .int b => a == b
  | .str a, .str b => a == b
  | _, _ => false
def glC (sc : Scope) (x : Str) : Bool := decide (sc.names.lookup x = some .globalImplicit)
def visC (sc : Scope) (x : Str) : Bool := decide (sc.names.lookup x = some .local) || decide (sc.names.lookup x = some .cell) || decide (sc.names.lookup x = some .free)
def asgC (sc : Scope) (x : Str) : Bool := decide (sc.names.lookup x = some .local) || decide (sc.names.lookup x = some .cell)
def notDbg (x : Str) : Bool := !(x == ("__debug__" : Str)) && !(x == ("__classdict__" : Str))
def nost : Expr → Bool
  | .Starred .. => false
  | _ => true
def plIx : Expr → Bool
  | .Slice .. => false
  | _ => true
/-- not super().. -/
def plBase : Expr → Bool
  | .Call .. => false
  | _ => true
def notSet : Expr → Bool
  | .Set .. => false
  | _ => true
/-- no test of its own form -/
def plTest : Expr → Bool
  | .UnaryOp .Not _ _ => false
  | .BoolOp .. => false
  | .Compare .. => false
  | .IfExp .. => false
  | _ => true
def tysOf (T : String) : Bool := decide (T ∈ tyOks)
section
variable (G : GT) (N : List Str) (ro : List Nat)
def chkGl : Scope → List Nat → List Expr → Bool
  | sc, i :: is, .Name x _ :: ts => decide (N[i]? = some x) && asgC sc x && chkGl sc is ts
  | _, [], [] => true
  | _, _, _ => false
def chkG (sc : Scope) (g : MG) (tg : Expr) : Bool := match g, tg with
  | .nm i, .Name x _ => decide (N[i]? = some x) && asgC sc x
  | .tp is, .Tuple ts _ _ => chkGl N sc is ts
  | _, _ => false
def isTup : Expr → Bool
  | .Tuple .. => true
  | _ => false
mutual
def chkE : ME → Scope → Expr → Bool
  | .cst d, _, e => match e with
    | .Constant .none _ _ => sEq d .none
    | .Constant (.bool x) _ _ => sEq d (.bool x)
    | .Constant (.int x) _ _ => sEq d (.int x)
    | .Constant (.str x) _ _ => sEq d (.str x) && decide (x.length ≤ lim)
    | _ => false
  | .glo x d, sc, e => match e with
    | .Name y _ => decide (y = x) && glC sc y && notDbg y && G.cst.any fun p => decide (p.1 = x) && sEq d p.2
    | _ => false
  | .var i, sc, e => match e with
    | .Name y _ => decide (N[i]? = some y) && visC sc y && notDbg y
    | _ => false
  | .not_ a, sc, e => match e with
    | .UnaryOp .Not x _ => chkE a sc x
    | _ => false
  | .and_ a b, sc, e => match e with
    | .BoolOp .And (x :: y :: r) p => chkE a sc x && (match r with
      | [] => chkE b sc y
      | _ => chkE b sc (.BoolOp .And (y :: r) p))
    | _ => false
  | .or_ a b, sc, e => match e with
    | .BoolOp .Or (x :: y :: r) p => chkE a sc x && (match r with
      | [] => chkE b sc y
      | _ => chkE b sc (.BoolOp .Or (y :: r) p))
    | _ => false
  | .ife c a b, sc, e => match e with
    | .IfExp z x y _ => chkE c sc z && chkE a sc x && chkE b sc y
    | _ => false
  | .cmp op a b, sc, e => match e with
    | .Compare x [o] [y] _ => decide (o = op) && !behindInMarks op y && chkE a sc x && chkE b sc y
    | _ => false
  | .chn o1 o2 a b c, sc, e => match e with
    | .Compare x [p1, p2] [y, z] _ => decide (p1 = o1) && decide (p2 = o2) && !behindInMarks o2 z && chkE a sc x && chkE b sc y && chkE c sc z
    | _ => false
  | .bin op a b, sc, e => match e with
    | .BinOp x o y _ => decide (o = op) && chkE a sc x && chkE b sc y
    | _ => false
  | .neg a, sc, e => match e with
    | .UnaryOp .USub x _ => chkE a sc x
    | _ => false
  | .tup l, sc, e => match e with
    | .Tuple es _ _ => chkEs l sc es
    | _ => false
  | .lst l, sc, e => match e with
    | .List es _ => chkEs l sc es
    | _ => false
  | .dct0, _, e => match e with
    | .Dict [] [] _ => true
    | _ => false
  | .idx a i, sc, e => match e with
    | .Subscript x y _ => plIx y && chkE a sc x && chkE i sc y
    | _ => false
  | .slc a lo hi, sc, e => match e with
    | .Subscript x (.Slice l h none _) _ => chkE a sc x && chkO lo sc l && chkO hi sc h
    | _ => false
  | .rev a, sc, e => match e with
    | .Subscript x (.Slice none none (some (.UnaryOp .USub (.Constant (.int j) _ _) _)) _) _ => decide (j = 1) && chkE a sc x
    | _ => false
  | .isi a T, sc, e => match e with
    | .Call (.Name f _) [x, .Name t _] [] _ => decide (f = "isinstance") && glC sc f && decide (t = Str.ofString T) && glC sc t && tysOf T && nost x && chkE a sc x
    | _ => false
  | .call f l lk kw, sc, e => match e with
    | .Call (.Name y _) es kws _ => decide (G.fnm[f]? = some y) && glC sc y && notDbg y && chkEs l sc es && chkKw lk sc kws && (match kws with
      | [] => kw.isEmpty
      | _ => G.kws.any fun p => decide (p.1 = f) && decide (p.2.1 = kws.filterMap (·.arg)) && decide (p.2.2 = kw) && !kw.isEmpty)
    | _ => false
  | .callT f g l, sc, e => match e with
    | .Call (.Name y _) [.Call (.Name z _) (x :: es) [] _] [] _ => decide (G.fnm[f]? = some y) && glC sc y && notDbg y && decide (G.fnm[g]? = some z) && glC sc z && notDbg z && chkEs l sc (x :: es)
    | _ => false
  | .lzip a b, sc, e => match e with
    | .Call (.Name y _) [.Call (.Name z _) [u, v] [] _] [] _ => decide (y = "list") && glC sc y && decide (z = "zip") && glC sc z && nost u && nost v && chkE a sc u && chkE b sc v
    | _ => false
  | .rpr a, sc, e => match e with
    | .Call (.Name y _) [u] [] _ => decide (y = "repr") && glC sc y && nost u && chkE a sc u
    | _ => false
  | .lset a, sc, e => match e with
    | .Call (.Name y _) [.Call (.Name z _) [u] [] _] [] _ => decide (y = "len") && glC sc y && decide (z = "set") && glC sc z && nost u && chkE a sc u
    | _ => false
  | .blt f l, sc, e => match e with
    | .Call (.Name y _) (x :: es) [] _ => decide (y = bfName f) && glC sc y && chkEs l sc (x :: es)
    | _ => false
  | .met m a l, sc, e => match e with
    | .Call (.Attribute o n apos) es [] cpos => plBase o && decide (apos.endLine = cpos.line) && chkE a sc o && chkEs l sc es && (match m, es with
      | .split, [_] => decide (n = "split")
      | .join, [_] => decide (n = "join")
      | .get1, [_] => decide (n = "get")
      | .get2, [_, _] => decide (n = "get")
      | _, _ => false)
    | _ => false
  | .comp vs g it c e', sc, e => match e with
    | .ListComp elt [⟨tg, iter, ifs, z⟩] scope _ => decide (z = 0) && blkC N sc scope (vs.map fun i => (N.getD i "", i)) && vs.all (fun i => decide (i ∉ ro)) && (tgsOf g).all (fun i => decide (i ∈ vs)) && notSet iter && chkG N scope g tg && chkI it sc tg iter && chkC c scope ifs && chkE e' scope elt
    | _ => false
def chkEs : MEs → Scope → List Expr → Bool
  | .nil, _, es => match es with
    | [] => true
    | _ => false
  | .cons a l, sc, es => match es with
    | e :: r => nost e && chkE a sc e && chkEs l sc r
    | _ => false
def chkKw : MEs → Scope → List Keyword → Bool
  | .nil, _, es => match es with
    | [] => true
    | _ => false
  | .cons a l, sc, es => match es with
    | ⟨some _, e, _⟩ :: r => chkE a sc e && chkKw l sc r
    | _ => false
def chkO : MO → Scope → Option Expr → Bool
  | .no, _, e => match e with
    | none => true
    | _ => false
  | .so a, sc, e => match e with
    | some x => chkE a sc x
    | _ => false
def chkC : MO → Scope → List Expr → Bool
  | .no, _, e => match e with
    | [] => true
    | _ => false
  | .so a, sc, e => match e with
    | [x] => chkE a sc x
    | _ => false
def chkI : MI → Scope → Expr → Expr → Bool
  | .seq a, sc, _, e => chkE a sc e
  | .rng a, sc, _, e => match e with
    | .Call (.Name y _) [u] [] _ => decide (y = "range") && glC sc y && nost u && chkE a sc u
    | _ => false
  | .rng2 a b, sc, _, e => match e with
    | .Call (.Name y _) [u, v] [] _ => decide (y = "range") && glC sc y && nost u && nost v && chkE a sc u && chkE b sc v
    | _ => false
  | .enu a, sc, tg, e => match e with
    | .Call (.Name y _) [u] [] _ => decide (y = "enumerate") && glC sc y && nost u && isTup tg && chkE a sc u
    | _ => false
  | .zip a b, sc, tg, e => match e with
    | .Call (.Name y _) [u, v] [] _ => decide (y = "zip") && glC sc y && nost u && nost v && isTup tg && chkE a sc u && chkE b sc v
    | _ => false
end
end

/-! ### what holds in a context of a body -/
structure Good (X : Cx) (Φ : Fns) (io : Nat → List Pk) (G : GT) (N : List Str) (sc : Scope) (k : Nat) : Prop where
  hN : X.N = N
  nd : N.Nodup
  same : ∀ x kd, sc.names.lookup x = some kd → kd ≠ .free → X.env.scope.names.lookup x = some kd
  free : ∀ x, sc.names.lookup x = some .free → X.env.scope.names.lookup x = some .cell ∨ X.env.scope.names.lookup x = some .free
  fn : ∀ x, sc.names.lookup x = some .cell → X.fn x = true
  calm : X.calm = true
  room : Room k X.A
  gds : X.A.guards = some []
  blt : ∀ x ∈ bltNames, X.mg x = none
  fns : ∀ n x, G.fnm[n]? = some x → ∃ f fd ps, FnG X.prog X.w X.K X.mg X.base k f fd ps (spFn X.K Φ (io n) n) ∧ X.mg x = some (.ref f) ∧ PySem.W.keepIn X.K (.ref f) = true ∧ Binds X.K fd ps [] ∧ ∀ p ∈ G.kws, p.1 = n → BindsK X.K fd ps p.2.1 p.2.2
  cst : ∀ p ∈ G.cst, ∃ v u, X.mg p.1 = some u ∧ RelV v u ∧ Sc v p.2
theorem sEq_of {d e : PyData} (h : sEq d e = true) : d = e := by
  cases d <;> cases e <;> simp_all [sEq]
theorem star_cons {e : Expr} {es : List Expr} {env : Env} (h : nost e = true) : starEach (e :: es) env = (false, eval e env) :: starEach es env := by
  cases e <;> first | rfl | cases h
section
variable {G : GT} {N : List Str} {ro : List Nat} {sc : Scope} {env : Env}
theorem chkEs_nost : ∀ {l : MEs} {es : List Expr}, chkEs G N ro l sc es = true → ∀ e ∈ es, nost e = true
  | .nil, [], _, e, h => by cases h
  | .nil, _ :: _, h, _, _ => by cases h
  | .cons a l, [], h, _, _ => by cases h
  | .cons a l, e :: es, h, x, hx => by
    simp only [chkEs, Bool.and_eq_true] at h
    rcases List.mem_cons.mp hx with rfl | hx
    · exact h.1.1
    · exact chkEs_nost h.2 x hx
theorem star_any {pos : Pos} : ∀ {es : List Expr}, (∀ e ∈ es, nost e = true) → (backTo pos (starEach es env)).any (·.1) = false
  | [], _ => rfl
  | e :: es, h => by
    rw [star_cons (h e List.mem_cons_self)]
    show (false || (backTo pos (starEach es env)).any (·.1)) = false
    rw [star_any fun x hx => h x (List.mem_cons_of_mem _ hx)]; rfl
theorem star_all {pos : Pos} : ∀ {es : List Expr}, (∀ e ∈ es, nost e = true) → (backTo pos (starEach es env)).all (fun x => !x.1) = true
  | [], _ => rfl
  | e :: es, h => by
    rw [star_cons (h e List.mem_cons_self)]
    show (true && (backTo pos (starEach es env)).all (fun x => !x.1)) = true
    rw [star_all fun x hx => h x (List.mem_cons_of_mem _ hx)]; rfl
theorem plIx_of {c : Expr} (h : plIx c = true) : PlainIx c := by
  cases c <;> first | (intro o i; rfl) | cases h
theorem base_of {o : Expr} {n : Str} {whole : Sem Value} (h : plBase o = true) : attributeBase o n env whole = whole := by
  cases o <;> first | rfl | cases h
theorem fs_of {iter : Expr} (h : notSet iter = true) (x : Value) : foldedSetIterable iter env x = pure x := by
  cases iter <;> first | rfl | cases h
theorem kw_some : ∀ {l : MEs} {kws : List Keyword} {pos : Pos}, chkKw G N ro l sc kws = true → (backToKw pos (keywordEach kws env)).all (·.1.isSome) = true ∧ (backToKw pos (keywordEach kws env)).any (·.1.isNone) = false ∧ (backToKw pos (keywordEach kws env)).filterMap (·.1) = kws.filterMap (·.arg)
  | .nil, [], _, _ => ⟨rfl, rfl, rfl⟩
  | .nil, _ :: _, _, h => by cases h
  | .cons a l, [], _, h => by cases h
  | .cons a l, ⟨none, e, p⟩ :: r, _, h => by cases h
  | .cons a l, ⟨some n, e, p⟩ :: r, pos, h => by
    simp only [chkKw, Bool.and_eq_true] at h
    obtain ⟨h1, h2, h3⟩ := kw_some (pos := pos) h.2
    refine ⟨?_, ?_, ?_⟩
    · show (true && (backToKw pos (keywordEach r env)).all (·.1.isSome)) = true
      rw [h1]; rfl
    · show (false || (backToKw pos (keywordEach r env)).any (·.1.isNone)) = false
      rw [h2]; rfl
    · show n :: (backToKw pos (keywordEach r env)).filterMap (·.1) = n :: r.filterMap (·.arg)
      rw [h3]
end
theorem isTrue_pl {e : Expr} (h : plTest e = true) (env : Env) (whole : Sem Value) : isTrue e env whole = (do let v ← whole; standAt e.pos; holding [v] (truthy v)) := by
  cases e with
  | UnaryOp op x p => cases op <;> first | rfl | cases h
  | _ => first | rfl | cases h
end Mi

set_option maxHeartbeats 4000000
/-! D20: what the evaluator says of an expression holds in the model. -/
namespace Mi
open PySem PySem.Spec PyProof.Rows L2

theorem lookup_relabel {P : Str → NameKind → Bool} : ∀ (names : List (Str × NameKind)) (x : Str), (names.map fun (n, k) => if P n k = true then (n, NameKind.cell) else (n, k)).lookup x = (names.lookup x).map fun k => if P x k = true then .cell else k
  | [], x => rfl
  | (n, k) :: r, x => by
    have ih := lookup_relabel (P := P) r x
    show List.lookup x ((if P n k = true then (n, NameKind.cell) else (n, k)) :: _) = _
    by_cases e : x = n
    · subst e
      by_cases h : P x k = true
      · rw [if_pos h]; simp [List.lookup_cons, h]
      · rw [if_neg h]; simp [List.lookup_cons, h]
    · have ne : (x == n) = false := by simpa using e
      by_cases h : P n k = true
      · rw [if_pos h, List.lookup_cons, List.lookup_cons, ne]; exact ih
      · rw [if_neg h, List.lookup_cons, List.lookup_cons, ne]; exact ih
section
variable {X : Cx} {Φ : Fns} {io : Nat → List Pk} {G : GT} {N : List Str} {sc : Scope} {k : Nat} {ro : List Nat}
theorem Good.gl (g : Good X Φ io G N sc k) {x : Str} (h : glC sc x = true) : Gl X x := g.same x _ (of_decide_eq_true h) (by decide)
theorem Good.vis (g : Good X Φ io G N sc k) {x : Str} (h : visC sc x = true) : Vis X.env.scope x := by
  unfold visC at h
  simp only [Bool.or_eq_true, decide_eq_true_eq] at h
  rcases h with (h | h) | h
  · exact .inl (g.same x _ h (by decide))
  · exact .inr (.inl (g.same x _ h (by decide)))
  · rcases g.free x h with h | h
    · exact .inr (.inl h)
    · exact .inr (.inr h)
theorem Good.loc (g : Good X Φ io G N sc k) {x : Str} (h : asgC sc x = true) : Loc X.env.scope x ∧ (X.fn x = true ∨ X.env.scope.names.lookup x = some .local) := by
  unfold asgC at h
  simp only [Bool.or_eq_true, decide_eq_true_eq] at h
  rcases h with h | h
  · have := g.same x _ h (by decide)
    exact ⟨.inl this, .inr this⟩
  · exact ⟨.inr (g.same x _ h (by decide)), .inl (g.fn x h)⟩
theorem Good.hu (g : Good X Φ io G N sc k) : X.A.units + 65 < cLine := by
  have := g.room.un
  omega
theorem Good.ix (g : Good X Φ io G N sc k) {i : Nat} {x : Str} (h : N[i]? = some x) : X.N[i]? = some x := by rw [g.hN]; exact h
theorem Good.ndX (g : Good X Φ io G N sc k) : X.N.Nodup := by rw [g.hN]; exact g.nd
theorem dbg_of {x : Str} (h : notDbg x = true) : (x == ("__debug__" : Str)) = false ∧ (x == ("__classdict__" : Str)) = false := by
  unfold notDbg at h
  simpa using h
theorem good_blk (g : Good X Φ io G N sc k) {scope : Scope} {own : List (Str × Nat)} (ok : BlkOk N sc scope own) (s : Shared) (H : Hp) (C : Addr) (cl : List (Str × Addr)) (fp : List Addr) : Good (blkOf X scope s H C cl fp) Φ io G N scope k where
  hN := g.hN
  nd := g.nd
  same := fun x kd h hf => by
    show (scope.names.map fun (n, k) => if (k == .free && X.env.scope.kind == .function && X.env.kindOf n == some .cell) = true then (n, NameKind.cell) else (n, k)).lookup x = some kd
    rw [lookup_relabel (P := fun n k => k == .free && X.env.scope.kind == .function && X.env.kindOf n == some .cell), h]
    show some _ = some kd
    have : (kd == NameKind.free) = false := by simpa using hf
    simp [this]
  free := fun x h => by
    have e : (blkOf X scope s H C cl fp).env.scope.names.lookup x = (scope.names.lookup x).map fun k => if (k == .free && X.env.scope.kind == .function && X.env.kindOf x == some .cell) = true then .cell else k :=
      lookup_relabel (P := fun n k => k == .free && X.env.scope.kind == .function && X.env.kindOf n == some .cell) scope.names x
    rw [e, h]
    show some (if _ then NameKind.cell else NameKind.free) = _ ∨ some (if _ then NameKind.cell else NameKind.free) = _
    split
    · exact .inl rfl
    · exact .inr rfl
  fn := fun x h => by
    show (scope.names.lookup x == some .cell) = true
    rw [h]; rfl
  calm := g.calm
  room := g.room
  gds := g.gds
  blt := g.blt
  fns := g.fns
  cst := g.cst
theorem Good.blkOk (g : Good X Φ io G N sc k) {scope : Scope} {own : List (Str × Nat)} (ok : BlkOk N sc scope own) : BlkOk X.N X.env.scope scope own := by
  rw [g.hN]
  refine ⟨ok.kind, ok.uniq, ok.ix, fun y hy e => ?_, ok.own⟩
  rcases ok.free y hy e with h | h
  · exact .inl (g.same _ _ h (by decide))
  · exact g.free _ h
theorem chkGl_ok (g : Good X Φ io G N sc k) : ∀ {is : List Nat} {ts : List Expr}, chkGl N sc is ts = true → BGl X ts is ∧ ts.length = is.length ∧ (assignEach ts X.env).length = ts.length ∧ (assignEach ts X.env).findIdx? (·.1) = none
  | [], [], _ => ⟨bgl_nil, rfl, rfl, rfl⟩
  | [], t :: ts, h => by cases t <;> cases h
  | i :: is, [], h => by cases h
  | i :: is, t :: ts, h => by
    cases t with
    | Name x p =>
      simp only [chkGl, Bool.and_eq_true, decide_eq_true_eq] at h
      obtain ⟨⟨h1, h2⟩, h3⟩ := h
      obtain ⟨k1, k2, k3, k4⟩ := chkGl_ok g h3
      obtain ⟨l1, l2⟩ := g.loc h2
      refine ⟨bgl_cons g.ndX (g.ix h1) l1 l2 k1, by rw [List.length_cons, List.length_cons, k2], ?_, ?_⟩
      · show (assignEach ts X.env).length + 1 = _
        rw [k3]; rfl
      · show ((false, _) :: assignEach ts X.env).findIdx? (·.1) = none
        rw [List.findIdx?_cons, k4]; rfl
    | _ => cases h
theorem chkG_ok (g : Good X Φ io G N sc k) {m : MG} {tg : Expr} (h : chkG N sc m tg = true) : BG X tg m := by
  cases m with
  | nm i =>
    cases tg with
    | Name x p =>
      simp only [chkG, Bool.and_eq_true, decide_eq_true_eq] at h
      obtain ⟨l1, l2⟩ := g.loc h.2
      exact bg_nm g.ndX (g.ix h.1) l1 l2
    | _ => cases h
  | tp is =>
    cases tg with
    | Tuple ts j p =>
      obtain ⟨k1, k2, k3, k4⟩ := chkGl_ok g (show chkGl N sc is ts = true from h)
      exact bg_tp g.calm k1 k3 k4 k2
    | _ => cases h
end

/-! ### if as a test -/
theorem pt_ife {X : Cx} {c a b : Expr} {pos : Pos} {tc ta tb : TT} (hc : PT X c tc) (ha : PT X a ta) (hb : PT X b tb) : PT X (.IfExp c a b pos) (fun σ H Q => tc σ H fun t H1 => if t = true then ta σ H1 Q else tb σ H1 Q) := by
  refine ⟨fun pins s σ H Q I h => ?_⟩
  have e : ∀ w : Sem Value, isTrue (.IfExp c a b pos) X.env w = (do if ← isTrue c X.env (eval c X.env) then isTrue a X.env (eval a X.env) else isTrue b X.env (eval b X.env)) := fun w => by first | rfl | rw [PySem.isTrue]
  rw [e]
  refine wpAny_bind (thn (hc.run pins s σ H _ I h) fun t s1 ⟨H1, I1, q1⟩ => ?_)
  cases t with
  | true => exact ha.run pins s1 σ H1 Q I1 q1
  | false => exact hb.run pins s1 σ H1 Q I1 q1
theorem bt_ife {X : Cx} {b : Bs} {c x y : Expr} {pos : Pos} {env env1 env' : En} {t u : Bool} (hc : BT X b c env t env1) (h1 : t = true → BT X b x env1 u env') (h2 : t = false → BT X b y env1 u env') : BT X b (.IfExp c x y pos) env u env' := fun F σ H S Q q =>
  wt_of (pt_ife (pt_wt c) (pt_wt x) (pt_wt y)) (hc F σ H S _ fun F' H' k S1 => by
    cases t with
    | true => exact iteT (h1 rfl F' σ H' S1 Q fun F2 H2 k2 S2 => q F2 H2 (k.trans k2) S2)
    | false => exact iteF (h2 rfl F' σ H' S1 Q fun F2 H2 k2 S2 => q F2 H2 (k.trans k2) S2))

/-! ### soundness -/
section
variable (Φ : Fns) (io : Nat → List Pk) (G : GT) (N : List Str) (ro : List Nat) (k : Nat)
/-- a frame of the body's own kind -/
def BsOk (b : Bs) (X : Cx) : Prop := (∀ q ∈ b.io, q.1 ∈ ro) ∧ b.w = X.w
def SE (me : ME) : Prop := ∀ (X : Cx) (sc : Scope) (e : Expr), Good X Φ io G N sc k → chkE G N ro me sc e = true → ∀ b : Bs, BsOk ro b X → ∀ env,
  (∀ d env', ev Φ io me env = some (d, env') → BE X b e env d (frME me d) env' ∧ BT X b e env (truth d) env' ∧ (∀ op vs p, e = .BoolOp op vs p → BW X b e env (truth d) env')) ∧
  (∀ o env', opd me env (ev Φ io me env) = some (o, env') → BO X b e env o env')
def SEs (l : MEs) : Prop := ∀ (X : Cx) (sc : Scope) (es : List Expr), Good X Φ io G N sc k → chkEs G N ro l sc es = true → ∀ b : Bs, BsOk ro b X → ∀ env,
  (∀ ds env', evs Φ io l env = some (ds, env') → BA X b es env ds env') ∧ (∀ os env', evos Φ io l env = some (os, env') → BAO X b es env os env')
def SKw (l : MEs) : Prop := ∀ (X : Cx) (sc : Scope) (es : List Keyword), Good X Φ io G N sc k → chkKw G N ro l sc es = true → ∀ b : Bs, BsOk ro b X → ∀ env,
  ∀ os env', evos Φ io l env = some (os, env') → BKO X b es env os env' ∧ os.length = (es.filterMap (·.arg)).length
def SO (m : MO) : Prop := ∀ (X : Cx) (sc : Scope) (e : Option Expr), Good X Φ io G N sc k → chkO G N ro m sc e = true → ∀ b : Bs, BsOk ro b X → ∀ env,
  ∀ o env', evO Φ io m env = some (o, env') → BP X b e env o env'
def SC (m : MO) : Prop := ∀ (X : Cx) (sc : Scope) (e : List Expr), Good X Φ io G N sc k → chkC G N ro m sc e = true → ∀ b : Bs, BsOk ro b X → ∀ env,
  ∀ t env', evC Φ io m env = some (t, env') → BTs X b e env t env'
def SI (m : MI) : Prop := ∀ (X : Cx) (sc : Scope) (tg e : Expr), Good X Φ io G N sc k → chkI G N ro m sc tg e = true → ∀ b : Bs, BsOk ro b X → ∀ env,
  ∀ ds env', evI Φ io m env = some (ds, env') → BI X b tg e env ds env'
end
section
variable {Φ : Fns} {io : Nat → List Pk} {G : GT} {N : List Str} {ro : List Nat} {k : Nat}
/-- a test of an operand -/
theorem SE.tst {me : ME} (h : SE Φ io G N ro k me) {X : Cx} {sc : Scope} {e : Expr} (g : Good X Φ io G N sc k) (hc : chkE G N ro me sc e = true) {b : Bs} (hb : BsOk ro b X) {env : En} {t : Bool} {env' : En}
    (he : tstO (opd me env (ev Φ io me env)) = some (t, env')) : BT X b e env t env' := by
  obtain ⟨⟨o, e1⟩, h1, h2⟩ := Option.bind_eq_some_iff.mp he
  obtain ⟨d, h3, h4⟩ := Option.map_eq_some_iff.mp h2
  cases h4
  obtain ⟨k1, k2⟩ := h X sc e g hc b hb env
  have gen : (∀ i, me ≠ .var i) → BT X b e env (truth d) e1 := fun n => by
    have hm : (ev Φ io me env).map (fun p => (Op.dt p.1, p.2)) = some (o, e1) := by
      cases me <;> first | exact h1 | exact (n _ rfl).elim
    obtain ⟨⟨d', e'⟩, k3, k4⟩ := Option.map_eq_some_iff.mp hm
    cases k4
    cases h3
    exact (k1 d' e' k3).2.1
  cases me with
  | var i =>
    cases e with
    | Name x p => exact BO.tru (k2 o e1 h1) h3 fun w => isTrue_pl rfl _ w
    | _ => cases hc
  | _ => exact gen fun i z => nomatch z
/-- the plain case: what comes is not tested in a form of its own -/
theorem SE.plain {me : ME} {X : Cx} {b : Bs} {e : Expr} {env : En} {d : PyData} {fr : Bool} {env' : En} (h : BE X b e env d fr env') (hp : plTest e = true) :
    BE X b e env d fr env' ∧ BT X b e env (truth d) env' ∧ (∀ op vs p, e = .BoolOp op vs p → BW X b e env (truth d) env') :=
  ⟨h, BO.tru h.bo rfl fun w => isTrue_pl hp _ w, fun op vs p z => by subst z; cases hp⟩
theorem opd_nv {me : ME} (n : ∀ i, me ≠ .var i) (env : En) (r : Option (PyData × En)) : opd me env r = r.map fun p => (.dt p.1, p.2) := by
  cases me <;> first | rfl | exact (n _ rfl).elim
theorem SE.ops {me : ME} (n : ∀ i, me ≠ .var i) {X : Cx} {b : Bs} {e : Expr} {env : En} (h : ∀ d env', ev Φ io me env = some (d, env') → BE X b e env d (frME me d) env') {o : Op} {env' : En} (ho : opd me env (ev Φ io me env) = some (o, env')) : BO X b e env o env' := by
  rw [opd_nv n] at ho
  obtain ⟨⟨d, e1⟩, h1, h2⟩ := Option.map_eq_some_iff.mp ho
  cases h2
  exact (h d e1 h1).bo
end
end Mi

set_option maxHeartbeats 8000000
/-! D21: soundness of the evaluator on expressions. -/
namespace Mi
open PySem PySem.Spec PyProof.Rows L2
section
variable {Φ : Fns} {io : Nat → List Pk} {G : GT} {N : List Str} {ro : List Nat} {k : Nat}
theorem SE.of {me : ME} (n : ∀ i, me ≠ .var i) (h : ∀ (X : Cx) (sc : Scope) (e : Expr), Good X Φ io G N sc k → chkE G N ro me sc e = true → ∀ b : Bs, BsOk ro b X → ∀ env d env', ev Φ io me env = some (d, env') → BE X b e env d (frME me d) env' ∧ plTest e = true) : SE Φ io G N ro k me := fun X sc e g hc b hb env =>
  ⟨fun d env' he => SE.plain (me := me) (h X sc e g hc b hb env d env' he).1 (h X sc e g hc b hb env d env' he).2, fun o env' ho => SE.ops n (fun d env' he => (h X sc e g hc b hb env d env' he).1) ho⟩
theorem sE_cst (d : PyData) : SE Φ io G N ro k (.cst d) := SE.of (fun _ z => nomatch z) fun X sc e g hc b hb env d' env' he => by
  cases he
  cases e with
  | Constant c j p =>
    refine ⟨?_, rfl⟩
    cases c with
    | none => rw [sEq_of (show sEq d .none = true from hc)]; exact be_none
    | bool x => rw [sEq_of (show sEq d (.bool x) = true from hc)]; exact be_bool
    | int x => rw [sEq_of (show sEq d (.int x) = true from hc)]; exact be_int
    | str x =>
      have hc : (sEq d (.str x) && decide (x.length ≤ lim)) = true := hc
      rw [Bool.and_eq_true] at hc
      rw [sEq_of hc.1]
      exact be_str (of_decide_eq_true hc.2)
    | _ => cases hc
  | _ => cases hc
theorem sE_glo (x : Str) (d : PyData) : SE Φ io G N ro k (.glo x d) := SE.of (fun _ z => nomatch z) fun X sc e g hc b hb env d' env' he => by
  cases he
  cases e with
  | Name y p =>
    simp only [chkE, Bool.and_eq_true, decide_eq_true_eq, List.any_eq_true] at hc
    obtain ⟨⟨⟨rfl, h1⟩, h2⟩, ⟨⟨x, d'⟩, h3, h4, h5⟩⟩ := hc
    obtain ⟨v, u, k1, k2, k3⟩ := g.cst _ h3
    subst h4
    rw [sEq_of h5]
    exact ⟨be_glob (g.gl h1) k1 k2 k3 (dbg_of h2).1, rfl⟩
  | _ => cases hc
theorem sE_var (i : Nat) : SE Φ io G N ro k (.var i) := fun X sc e g hc b hb env => by
  cases e with
  | Name y p =>
    simp only [chkE, Bool.and_eq_true, decide_eq_true_eq] at hc
    obtain ⟨⟨h1, h2⟩, h3⟩ := hc
    exact ⟨fun d env' he => SE.plain (me := .var i) (be_var (g.ix h1) (g.vis h2) (dbg_of h3).1 (dbg_of h3).2 he) rfl, fun o env' ho => bo_var (g.ix h1) (g.vis h2) (dbg_of h3).1 (dbg_of h3).2 ho⟩
  | _ => cases hc
theorem sE_not {a : ME} (ha : SE Φ io G N ro k a) : SE Φ io G N ro k (.not_ a) := fun X sc e g hc b hb env => by
  cases e with
  | UnaryOp op x p =>
    cases op with
    | Not =>
      have core : ∀ d env', ev Φ io (.not_ a) env = some (d, env') → BE X b (.UnaryOp .Not x p) env d false env' ∧ BT X b (.UnaryOp .Not x p) env (truth d) env' := fun d env' he => by
        obtain ⟨⟨t, e1⟩, h1, h2⟩ := Option.map_eq_some_iff.mp (show (tstO (opd a env (ev Φ io a env))).map (fun p => (PyData.bool (!p.1), p.2)) = _ from he)
        cases h2
        refine ⟨?_, bt_not (ha.tst g hc hb h1)⟩
        obtain ⟨⟨o, e2⟩, h3, h4⟩ := Option.bind_eq_some_iff.mp h1
        obtain ⟨d, h5, h6⟩ := Option.map_eq_some_iff.mp h4
        cases h6
        exact be_notO ((ha X sc x g hc b hb env).2 o _ h3) h5
      exact ⟨fun d env' he => ⟨(core d env' he).1, (core d env' he).2, fun op vs p z => nomatch z⟩, fun o env' ho => SE.ops (me := .not_ a) (fun _ z => nomatch z) (fun d env' he => (core d env' he).1) ho⟩
    | _ => cases hc
  | _ => cases hc
theorem sE_and {a c : ME} (ha : SE Φ io G N ro k a) (hc' : SE Φ io G N ro k c) : SE Φ io G N ro k (.and_ a c) := fun X sc e g hc b hb env => by
  cases e with
  | BoolOp op vs p =>
    cases op with
    | Or => cases hc
    | And =>
      match vs, hc with
      | x :: y :: r, hc =>
        simp only [chkE, Bool.and_eq_true] at hc
        obtain ⟨c1, c2⟩ := hc
        have rest : ∀ en d env', ev Φ io c en = some (d, env') → BE X b (.BoolOp .And (y :: r) p) en d false env' ∧ BW X b (.BoolOp .And (y :: r) p) en (truth d) env' := fun en d env' he => by
          cases r with
          | nil =>
            obtain ⟨k1, k2, _⟩ := (hc' X sc y g c2 b hb en).1 d env' he
            exact ⟨be_one k1.to, bw_and k2⟩
          | cons z r =>
            obtain ⟨k1, _, k3⟩ := (hc' X sc _ g c2 b hb en).1 d env' he
            exact ⟨k1.to, k3 _ _ _ rfl⟩
        have core : ∀ d env', ev Φ io (.and_ a c) env = some (d, env') → BE X b (.BoolOp .And (x :: y :: r) p) env d false env' ∧ BW X b (.BoolOp .And (x :: y :: r) p) env (truth d) env' := fun d env' he => by
          obtain ⟨⟨d1, e1⟩, h1, h2⟩ := Option.bind_eq_some_iff.mp (show (ev Φ io a env).bind (fun p => if truth p.1 = true then ev Φ io c p.2 else some p) = _ from he)
          obtain ⟨k1, k2, _⟩ := (ha X sc x g c1 b hb env).1 d1 e1 h1
          by_cases ht : truth d1 = true
          · rw [if_pos ht] at h2
            obtain ⟨j1, j2⟩ := rest e1 d env' h2
            rw [ht] at k2
            exact ⟨be_and1 k1.to ht j1, bw_and1 k2 j2⟩
          · have ht : truth d1 = false := by simpa using ht
            rw [if_neg (by simp [ht])] at h2
            cases h2
            rw [ht] at k2 ⊢
            exact ⟨be_and0 k1.to ht, bw_and0 k2⟩
        exact ⟨fun d env' he => ⟨(core d env' he).1, (core d env' he).2.bt, fun op vs p z => by cases z; exact (core d env' he).2⟩, fun o env' ho => SE.ops (me := .and_ a c) (fun _ z => nomatch z) (fun d env' he => (core d env' he).1) ho⟩
      | [], hc => cases hc
      | [_], hc => cases hc
  | _ => cases hc
theorem sE_or {a c : ME} (ha : SE Φ io G N ro k a) (hc' : SE Φ io G N ro k c) : SE Φ io G N ro k (.or_ a c) := fun X sc e g hc b hb env => by
  cases e with
  | BoolOp op vs p =>
    cases op with
    | And => cases hc
    | Or =>
      match vs, hc with
      | x :: y :: r, hc =>
        simp only [chkE, Bool.and_eq_true] at hc
        obtain ⟨c1, c2⟩ := hc
        have rest : ∀ en d env', ev Φ io c en = some (d, env') → BE X b (.BoolOp .Or (y :: r) p) en d false env' ∧ BW X b (.BoolOp .Or (y :: r) p) en (truth d) env' := fun en d env' he => by
          cases r with
          | nil =>
            obtain ⟨k1, k2, _⟩ := (hc' X sc y g c2 b hb en).1 d env' he
            exact ⟨be_one k1.to, bw_or k2⟩
          | cons z r =>
            obtain ⟨k1, _, k3⟩ := (hc' X sc _ g c2 b hb en).1 d env' he
            exact ⟨k1.to, k3 _ _ _ rfl⟩
        have core : ∀ d env', ev Φ io (.or_ a c) env = some (d, env') → BE X b (.BoolOp .Or (x :: y :: r) p) env d false env' ∧ BW X b (.BoolOp .Or (x :: y :: r) p) env (truth d) env' := fun d env' he => by
          obtain ⟨⟨d1, e1⟩, h1, h2⟩ := Option.bind_eq_some_iff.mp (show (ev Φ io a env).bind (fun p => if truth p.1 = true then some p else ev Φ io c p.2) = _ from he)
          obtain ⟨k1, k2, _⟩ := (ha X sc x g c1 b hb env).1 d1 e1 h1
          by_cases ht : truth d1 = true
          · rw [if_pos ht] at h2
            cases h2
            rw [ht] at k2 ⊢
            exact ⟨be_or1 k1.to ht, bw_or1 k2⟩
          · have ht : truth d1 = false := by simpa using ht
            rw [if_neg (by simp [ht])] at h2
            obtain ⟨j1, j2⟩ := rest e1 d env' h2
            rw [ht] at k2
            exact ⟨be_or0 k1.to ht j1, bw_or0 k2 j2⟩
        exact ⟨fun d env' he => ⟨(core d env' he).1, (core d env' he).2.bt, fun op vs p z => by cases z; exact (core d env' he).2⟩, fun o env' ho => SE.ops (me := .or_ a c) (fun _ z => nomatch z) (fun d env' he => (core d env' he).1) ho⟩
      | [], hc => cases hc
      | [_], hc => cases hc
  | _ => cases hc
theorem sE_ife {c a d : ME} (hcc : SE Φ io G N ro k c) (ha : SE Φ io G N ro k a) (hd : SE Φ io G N ro k d) : SE Φ io G N ro k (.ife c a d) := fun X sc e g hc b hb env => by
  cases e with
  | IfExp z x y p =>
    simp only [chkE, Bool.and_eq_true] at hc
    obtain ⟨⟨c1, c2⟩, c3⟩ := hc
    have core : ∀ v env', ev Φ io (.ife c a d) env = some (v, env') → BE X b (.IfExp z x y p) env v false env' ∧ BT X b (.IfExp z x y p) env (truth v) env' := fun v env' he => by
      obtain ⟨⟨t, e1⟩, h1, h2⟩ := Option.bind_eq_some_iff.mp (show (tstO (opd c env (ev Φ io c env))).bind (fun p => if p.1 = true then ev Φ io a p.2 else ev Φ io d p.2) = _ from he)
      have ht := hcc.tst g c1 hb h1
      refine ⟨be_if ht (fun z => ?_) fun z => ?_, bt_ife ht (fun z => ?_) fun z => ?_⟩
      · subst z; exact ((ha X sc x g c2 b hb e1).1 v env' h2).1.to
      · subst z; exact ((hd X sc y g c3 b hb e1).1 v env' h2).1.to
      · subst z; exact ((ha X sc x g c2 b hb e1).1 v env' h2).2.1
      · subst z; exact ((hd X sc y g c3 b hb e1).1 v env' h2).2.1
    exact ⟨fun d env' he => ⟨(core d env' he).1, (core d env' he).2, fun op vs p z => nomatch z⟩, fun o env' ho => SE.ops (me := .ife c a d) (fun _ z => nomatch z) (fun d env' he => (core d env' he).1) ho⟩
  | _ => cases hc
theorem sE_cmp {op : CmpOp} {a c : ME} (ha : SE Φ io G N ro k a) (hc' : SE Φ io G N ro k c) : SE Φ io G N ro k (.cmp op a c) := fun X sc e g hc b hb env => by
  cases e with
  | Compare x ops ys p =>
    match ops, ys, hc with
    | [o], [y], hc =>
      simp only [chkE, Bool.and_eq_true, decide_eq_true_eq, Bool.not_eq_true'] at hc
      obtain ⟨⟨⟨rfl, c1⟩, c2⟩, c3⟩ := hc
      have core : ∀ v env', ev Φ io (.cmp o a c) env = some (v, env') → BE X b (.Compare x [o] [y] p) env v false env' ∧ BT X b (.Compare x [o] [y] p) env (truth v) env' := fun v env' he => by
        obtain ⟨⟨oa, e1⟩, h1, he⟩ := Option.bind_eq_some_iff.mp (show (opd a env (ev Φ io a env)).bind (fun p => (opd c p.2 (ev Φ io c p.2)).bind fun q => (cmpE o p.1 q.1 q.2).map fun t => (PyData.bool t, q.2)) = _ from he)
        obtain ⟨⟨ob, e2⟩, h2, he⟩ := Option.bind_eq_some_iff.mp he
        obtain ⟨t, h3, h4⟩ := Option.map_eq_some_iff.mp he
        cases h4
        have k1 := (ha X sc x g c2 b hb env).2 oa e1 h1
        have k2 := (hc' X sc y g c3 b hb e1).2 ob e2 h2
        exact ⟨be_cmpT g.hu hb.2 k1 k2 h3 c1, bt_cmpT g.hu hb.2 k1 k2 h3 c1⟩
      exact ⟨fun d env' he => ⟨(core d env' he).1, (core d env' he).2, fun op vs p z => nomatch z⟩, fun o' env' ho => SE.ops (me := .cmp o a c) (fun _ z => nomatch z) (fun d env' he => (core d env' he).1) ho⟩
    | [], _, hc => cases hc
    | _ :: _ :: _, [], hc => cases hc
    | [_], [], hc => cases hc
    | [_], _ :: _ :: _, hc => cases hc
    | _ :: _ :: _, [_], hc => cases hc
    | _ :: _ :: _, _ :: _ :: _, hc => cases hc
  | _ => cases hc
theorem sE_chn {o1 o2 : CmpOp} {a c d : ME} (ha : SE Φ io G N ro k a) (hc' : SE Φ io G N ro k c) (hd : SE Φ io G N ro k d) : SE Φ io G N ro k (.chn o1 o2 a c d) := fun X sc e g hc b hb env => by
  cases e with
  | Compare x ops ys p =>
    match ops, ys, hc with
    | [p1, p2], [y, z], hc =>
      simp only [chkE, Bool.and_eq_true, decide_eq_true_eq, Bool.not_eq_true'] at hc
      obtain ⟨⟨⟨⟨⟨rfl, rfl⟩, c1⟩, c2⟩, c3⟩, c4⟩ := hc
      have core : ∀ v env', ev Φ io (.chn p1 p2 a c d) env = some (v, env') → BE X b (.Compare x [p1, p2] [y, z] p) env v false env' ∧ BT X b (.Compare x [p1, p2] [y, z] p) env (truth v) env' := fun v env' he => by
        obtain ⟨⟨oa, e1⟩, h1, he⟩ := Option.bind_eq_some_iff.mp (show (opd a env (ev Φ io a env)).bind _ = _ from he)
        obtain ⟨⟨ob, e2⟩, h2, he⟩ := Option.bind_eq_some_iff.mp he
        obtain ⟨dx, h3, he⟩ := Option.bind_eq_some_iff.mp he
        obtain ⟨dy, h4, he⟩ := Option.bind_eq_some_iff.mp he
        obtain ⟨t, h5, he⟩ := Option.bind_eq_some_iff.mp he
        have k1 := (ha X sc x g c2 b hb env).2 oa e1 h1
        have k2 := (hc' X sc y g c3 b hb e1).2 ob e2 h2
        cases t with
        | false =>
          rw [if_neg Bool.false_ne_true] at he
          cases he
          have z0 : (false = true → BO X b z e2 (.dt .none) e2 ∧ rdO e2 ob = some .none ∧ rdO e2 (.dt .none) = some .none ∧ cmpD p2 .none .none = some false) := fun z => by cases z
          exact ⟨be_chn g.hu k1 k2 h3 h4 h5 (fun _ => ⟨rfl, rfl⟩) z0 c1, bt_chn g.hu k1 k2 h3 h4 h5 (fun _ => ⟨rfl, rfl⟩) z0 c1⟩
        | true =>
          rw [if_pos rfl] at he
          obtain ⟨⟨oc, e3⟩, h6, he⟩ := Option.bind_eq_some_iff.mp he
          obtain ⟨dy', h7, he⟩ := Option.bind_eq_some_iff.mp he
          obtain ⟨dz, h8, he⟩ := Option.bind_eq_some_iff.mp he
          obtain ⟨u, h9, h10⟩ := Option.map_eq_some_iff.mp he
          cases h10
          have k3 := (hd X sc z g c4 b hb e2).2 oc e3 h6
          exact ⟨be_chn g.hu k1 k2 h3 h4 h5 (fun z => nomatch z) (fun _ => ⟨k3, h7, h8, h9⟩) c1, bt_chn g.hu k1 k2 h3 h4 h5 (fun z => nomatch z) (fun _ => ⟨k3, h7, h8, h9⟩) c1⟩
      exact ⟨fun d env' he => ⟨(core d env' he).1, (core d env' he).2, fun op vs p z => nomatch z⟩, fun o' env' ho => SE.ops (me := .chn p1 p2 a c d) (fun _ z => nomatch z) (fun d env' he => (core d env' he).1) ho⟩
    | [], _, hc => cases hc
    | [_], _, hc => cases hc
    | [_, _], [], hc => cases hc
    | [_, _], [_], hc => cases hc
    | [_, _], _ :: _ :: _ :: _, hc => cases hc
    | _ :: _ :: _ :: _, _, hc => cases hc
  | _ => cases hc
end
end Mi

set_option maxHeartbeats 8000000
/-! D22: soundness on expressions, the rest. -/
namespace Mi
open PySem PySem.Spec PyProof.Rows L2
theorem bnd1_of {r : Option (Op × En)} {f : PyData → Option PyData} {z : PyData} {e' : En} (h : bnd1 r f = some (z, e')) : ∃ o x, r = some (o, e') ∧ rdO e' o = some x ∧ f x = some z := by
  obtain ⟨⟨o, e1⟩, h1, h⟩ := Option.bind_eq_some_iff.mp h
  obtain ⟨x, h2, h⟩ := Option.bind_eq_some_iff.mp h
  obtain ⟨y, h3, h4⟩ := Option.map_eq_some_iff.mp h
  cases h4
  exact ⟨o, x, h1, h2, h3⟩
theorem bnd2_of {r : Option (Op × En)} {g : En → Option (Op × En)} {f : PyData → PyData → Option PyData} {z : PyData} {e' : En} (h : bnd2 r g f = some (z, e')) : ∃ oa e1 ob x y, r = some (oa, e1) ∧ g e1 = some (ob, e') ∧ rdO e' oa = some x ∧ rdO e' ob = some y ∧ f x y = some z := by
  obtain ⟨⟨oa, e1⟩, h1, h⟩ := Option.bind_eq_some_iff.mp h
  obtain ⟨⟨ob, e2⟩, h2, h⟩ := Option.bind_eq_some_iff.mp h
  obtain ⟨x, h3, h⟩ := Option.bind_eq_some_iff.mp h
  obtain ⟨y, h4, h⟩ := Option.bind_eq_some_iff.mp h
  obtain ⟨w, h5, h6⟩ := Option.map_eq_some_iff.mp h
  cases h6
  exact ⟨oa, e1, ob, x, y, h1, h2, h3, h4, h5⟩
theorem bndS_of {r : Option (Op × En)} {g : En → Option (Op × En)} {f : PyData → PyData → Option PyData} {z : PyData} {e' : En} (h : bndS r g f = some (z, e')) : ∃ oa e1 ob x y, r = some (oa, e1) ∧ g e1 = some (ob, e') ∧ rdS e' oa = some x ∧ rdO e' ob = some y ∧ f x y = some z := by
  obtain ⟨⟨oa, e1⟩, h1, h⟩ := Option.bind_eq_some_iff.mp h
  obtain ⟨⟨ob, e2⟩, h2, h⟩ := Option.bind_eq_some_iff.mp h
  obtain ⟨x, h3, h⟩ := Option.bind_eq_some_iff.mp h
  obtain ⟨y, h4, h⟩ := Option.bind_eq_some_iff.mp h
  obtain ⟨w, h5, h6⟩ := Option.map_eq_some_iff.mp h
  cases h6
  exact ⟨oa, e1, ob, x, y, h1, h2, h3, h4, h5⟩
section
variable {Φ : Fns} {io : Nat → List Pk} {G : GT} {N : List Str} {ro : List Nat} {k : Nat}
theorem Good.bl {X : Cx} {sc : Scope} (g : Good X Φ io G N sc k) {x : Str} (h : x ∈ bltNames) : X.mg x = none := g.blt x h
theorem sE_bin {op : Operator} {a c : ME} (ha : SE Φ io G N ro k a) (hc' : SE Φ io G N ro k c) : SE Φ io G N ro k (.bin op a c) := SE.of (fun _ z => nomatch z) fun X sc e g hc b hb env d' env' he => by
  cases e with
  | BinOp x o y p =>
    simp only [chkE, Bool.and_eq_true, decide_eq_true_eq] at hc
    obtain ⟨⟨rfl, c1⟩, c2⟩ := hc
    obtain ⟨oa, e1, ob, u, v, h1, h2, h3, h4, h5⟩ := bnd2_of (show bnd2 (opd a env (ev Φ io a env)) (fun e => opd c e (ev Φ io c e)) (binD o) = _ from he)
    have := be_bin (pos := p) ((ha X sc x g c1 b hb env).2 oa e1 h1) ((hc' X sc y g c2 b hb e1).2 ob env' h2) h3 h4 h5
    refine ⟨?_, rfl⟩
    have fr : frB o d' = frME (.bin o a c) d' := by cases o <;> cases d' <;> rfl
    rw [← fr]
    exact this
  | _ => cases hc
theorem sE_neg {a : ME} (ha : SE Φ io G N ro k a) : SE Φ io G N ro k (.neg a) := SE.of (fun _ z => nomatch z) fun X sc e g hc b hb env d' env' he => by
  cases e with
  | UnaryOp op x p =>
    cases op with
    | USub =>
      obtain ⟨⟨d, e1⟩, h1, h2⟩ := Option.bind_eq_some_iff.mp (show (ev Φ io a env).bind _ = _ from he)
      cases d with
      | int i =>
        cases h2
        exact ⟨be_neg ((ha X sc x g hc b hb env).1 _ e1 h1).1.to, rfl⟩
      | _ => cases h2
    | _ => cases hc
  | _ => cases hc
theorem sE_tup {l : MEs} (hl : SEs Φ io G N ro k l) : SE Φ io G N ro k (.tup l) := SE.of (fun _ z => nomatch z) fun X sc e g hc b hb env d' env' he => by
  cases e with
  | Tuple es j p =>
    obtain ⟨⟨ds, e1⟩, h1, h2⟩ := Option.bind_eq_some_iff.mp (show (evs Φ io l env).bind _ = _ from he)
    split at h2
    · rename_i hlen
      cases h2
      exact ⟨be_tup ((hl X sc es g hc b hb env).1 ds e1 h1) hlen, rfl⟩
    · cases h2
  | _ => cases hc
theorem sE_lst {l : MEs} (hl : SEs Φ io G N ro k l) : SE Φ io G N ro k (.lst l) := SE.of (fun _ z => nomatch z) fun X sc e g hc b hb env d' env' he => by
  cases e with
  | List es p =>
    obtain ⟨⟨ds, e1⟩, h1, h2⟩ := Option.bind_eq_some_iff.mp (show (evs Φ io l env).bind _ = _ from he)
    split at h2
    · rename_i hlen
      cases h2
      exact ⟨be_lst ((hl X sc es g hc b hb env).1 ds e1 h1) hlen, rfl⟩
    · cases h2
  | _ => cases hc
theorem sE_dct0 : SE Φ io G N ro k .dct0 := SE.of (fun _ z => nomatch z) fun X sc e g hc b hb env d' env' he => by
  cases e with
  | Dict ks vs p =>
    match ks, vs, hc with
    | [], [], _ => cases he; exact ⟨be_dct0, rfl⟩
    | _ :: _, _, hc => cases hc
    | [], _ :: _, hc => cases hc
  | _ => cases hc
theorem sE_idx {a c : ME} (ha : SE Φ io G N ro k a) (hc' : SE Φ io G N ro k c) : SE Φ io G N ro k (.idx a c) := SE.of (fun _ z => nomatch z) fun X sc e g hc b hb env d' env' he => by
  cases e with
  | Subscript x y p =>
    simp only [chkE, Bool.and_eq_true] at hc
    obtain ⟨⟨c0, c1⟩, c2⟩ := hc
    obtain ⟨oa, e1, ob, u, v, h1, h2, h3, h4, h5⟩ := bndS_of (show bndS (opd a env (ev Φ io a env)) (fun e => opd c e (ev Φ io c e)) idxD = _ from he)
    exact ⟨be_idx (by have := g.hu; omega) ((ha X sc x g c1 b hb env).2 oa e1 h1) ((hc' X sc y g c2 b hb e1).2 ob env' h2) h3 h4 h5 (plIx_of c0), rfl⟩
  | _ => cases hc
theorem sE_slc {a : ME} {lo hi : MO} (ha : SE Φ io G N ro k a) (hl : SO Φ io G N ro k lo) (hh : SO Φ io G N ro k hi) : SE Φ io G N ro k (.slc a lo hi) := SE.of (fun _ z => nomatch z) fun X sc e g hc b hb env d' env' he => by
  cases e with
  | Subscript x y p =>
    cases y with
    | Slice l h st p2 =>
      cases st with
      | none =>
        simp only [chkE, Bool.and_eq_true] at hc
        obtain ⟨⟨c0, c1⟩, c2⟩ := hc
        obtain ⟨⟨oa, e1⟩, h1, he⟩ := Option.bind_eq_some_iff.mp (show (opd a env (ev Φ io a env)).bind _ = _ from he)
        obtain ⟨⟨il, e2⟩, h2, he⟩ := Option.bind_eq_some_iff.mp he
        obtain ⟨⟨ih, e3⟩, h3, he⟩ := Option.bind_eq_some_iff.mp he
        obtain ⟨u, h4, he⟩ := Option.bind_eq_some_iff.mp he
        obtain ⟨z, h5, h6⟩ := Option.map_eq_some_iff.mp he
        cases h6
        have := be_slc (pos := p) (p2 := p2) ((ha X sc x g c0 b hb env).2 oa e1 h1) (hl X sc l g c1 b hb e1 il e2 h2) (hh X sc h g c2 b hb e2 ih _ h3) h4 h5
        have fr : frS d' = frME (.slc a lo hi) d' := by cases d' <;> rfl
        rw [fr] at this
        exact ⟨this, rfl⟩
      | some _ => cases hc
    | _ => cases hc
  | _ => cases hc
theorem sE_rev {a : ME} (ha : SE Φ io G N ro k a) : SE Φ io G N ro k (.rev a) := SE.of (fun _ z => nomatch z) fun X sc e g hc b hb env d' env' he => by
  simp only [chkE] at hc
  split at hc
  · rename_i x j _ _ _ _ _
    simp only [Bool.and_eq_true, decide_eq_true_eq] at hc
    obtain ⟨rfl, c1⟩ := hc
    obtain ⟨o, u, h1, h2, h3⟩ := bnd1_of (show bnd1 (opd a env (ev Φ io a env)) revD = _ from he)
    have k1 := (ha X sc x g c1 b hb env).2 o env' h1
    refine ⟨?_, rfl⟩
    cases u with
    | list xs => cases h3; exact be_revL k1 h2
    | tuple xs => cases h3; exact be_revT k1 h2
    | _ => cases h3
  · cases hc
theorem sE_isi {a : ME} {T : String} (ha : SE Φ io G N ro k a) : SE Φ io G N ro k (.isi a T) := SE.of (fun _ z => nomatch z) fun X sc e g hc b hb env d' env' he => by
  simp only [chkE] at hc
  split at hc
  · rename_i f _ x t _ _
    simp only [Bool.and_eq_true, decide_eq_true_eq] at hc
    obtain ⟨⟨⟨⟨⟨⟨rfl, c1⟩, rfl⟩, c2⟩, c3⟩, c4⟩, c5⟩ := hc
    obtain ⟨o, u, h1, h2, h3⟩ := bnd1_of (show bnd1 (opd a env (ev Φ io a env)) (fun d => (isiD T d).map PyData.bool) = _ from he)
    obtain ⟨t, h4, rfl⟩ := Option.map_eq_some_iff.mp h3
    have hT : T ∈ tyOks := of_decide_eq_true c3
    have mT : X.mg (Str.ofString T) = none := g.blt _ (by
      simp only [tyOks, List.mem_cons, List.not_mem_nil, or_false] at hT
      rcases hT with rfl | rfl | rfl | rfl | rfl | rfl <;> decide)
    exact ⟨be_isi hT (g.gl c1) (g.bl (by decide)) (g.gl c2) mT (star_cons c4) ((ha X sc x g c5 b hb env).2 o env' h1) h2 h4, rfl⟩
  · cases hc
theorem sE_rpr {a : ME} (ha : SE Φ io G N ro k a) : SE Φ io G N ro k (.rpr a) := SE.of (fun _ z => nomatch z) fun X sc e g hc b hb env d' env' he => by
  simp only [chkE] at hc
  split at hc
  · rename_i y _ x _
    simp only [Bool.and_eq_true, decide_eq_true_eq] at hc
    obtain ⟨⟨⟨rfl, c1⟩, c2⟩, c3⟩ := hc
    obtain ⟨o, u, h1, h2, h3⟩ := bnd1_of (show bnd1 (opd a env (ev Φ io a env)) reprF = _ from he)
    exact ⟨be_repr g.gds g.hu (g.gl c1) (g.bl (by decide)) ((ha X sc x g c3 b hb env).2 o env' h1) h2 h3 (star_cons c2), rfl⟩
  · cases hc
theorem sE_lset {a : ME} (ha : SE Φ io G N ro k a) : SE Φ io G N ro k (.lset a) := SE.of (fun _ z => nomatch z) fun X sc e g hc b hb env d' env' he => by
  simp only [chkE] at hc
  split at hc
  · rename_i y _ z _ x _ _
    simp only [Bool.and_eq_true, decide_eq_true_eq] at hc
    obtain ⟨⟨⟨⟨⟨rfl, c1⟩, rfl⟩, c2⟩, c3⟩, c4⟩ := hc
    obtain ⟨o, u, h1, h2, h3⟩ := bnd1_of (show bnd1 (opd a env (ev Φ io a env)) lsetF = _ from he)
    exact ⟨be_lenset g.calm (g.gl c1) (g.bl (by decide)) (g.gl c2) (g.bl (by decide)) ((ha X sc x g c4 b hb env).2 o env' h1) h2 h3 (star_cons c3), rfl⟩
  · cases hc
theorem sE_lzip {a c : ME} (ha : SE Φ io G N ro k a) (hc' : SE Φ io G N ro k c) : SE Φ io G N ro k (.lzip a c) := SE.of (fun _ z => nomatch z) fun X sc e g hc b hb env d' env' he => by
  simp only [chkE] at hc
  split at hc
  · rename_i y _ z _ u v _ _
    simp only [Bool.and_eq_true, decide_eq_true_eq] at hc
    obtain ⟨⟨⟨⟨⟨⟨⟨rfl, c1⟩, rfl⟩, c2⟩, c3⟩, c4⟩, c5⟩, c6⟩ := hc
    obtain ⟨⟨d1, e1⟩, h1, he⟩ := Option.bind_eq_some_iff.mp (show (ev Φ io a env).bind _ = _ from he)
    obtain ⟨⟨d2, e2⟩, h2, he⟩ := Option.bind_eq_some_iff.mp he
    cases d1 with
    | list xs =>
      cases d2 with
      | list ys =>
        cases he
        exact ⟨be_lzip g.calm (g.gl c2) (g.bl (by decide)) (g.gl c1) (g.bl (by decide)) ((ha X sc u g c5 b hb env).1 _ e1 h1).1.to ((hc' X sc v g c6 b hb e1).1 _ _ h2).1.to (star_cons c3) (star_cons c4) (star_any (by simpa using c4)), rfl⟩
      | _ => cases he
    | _ => cases he
  · cases hc
theorem bf_mem (f : BF) : bfName f ∈ bltNames := by cases f <;> decide
theorem sE_blt {f : BF} {l : MEs} (hl : SEs Φ io G N ro k l) : SE Φ io G N ro k (.blt f l) := SE.of (fun _ z => nomatch z) fun X sc e g hc b hb env d' env' he => by
  simp only [chkE] at hc
  split at hc
  · rename_i y _ x es _
    simp only [Bool.and_eq_true, decide_eq_true_eq] at hc
    obtain ⟨⟨rfl, c1⟩, c2⟩ := hc
    obtain ⟨⟨os, e1⟩, h1, he⟩ := Option.bind_eq_some_iff.mp (show (evos Φ io l env).bind _ = _ from he)
    obtain ⟨ds, h2, he⟩ := Option.bind_eq_some_iff.mp he
    obtain ⟨z, h3, h4⟩ := Option.map_eq_some_iff.mp he
    cases h4
    have ns := chkEs_nost c2
    have k1 := (hl X sc (x :: es) g c2 b hb env).2 os _ h1
    have s1 : starEach (x :: es) X.env = (false, eval x X.env) :: starEach es X.env := star_cons (ns x List.mem_cons_self)
    have s2 : ∀ pos, (backTo pos (starEach es X.env)).any (·.1) = false := fun pos => star_any fun y hy => ns y (List.mem_cons_of_mem _ hy)
    refine ⟨?_, rfl⟩
    by_cases hf : f = .len
    · subst hf
      exact be_len (g.gl c1) (g.bl (by decide)) s1 (s2 _) k1 h2 h3
    · have h2' : rdOs e1 os = some ds := by cases f <;> first | exact (hf rfl).elim | exact h2
      have fr : frF f d' = frME (.blt f l) d' := by cases f <;> cases d' <;> rfl
      rw [← fr]
      exact be_blt g.calm hf (g.gl c1) (g.blt _ (bf_mem f)) s1 (s2 _) k1 h2' h3
  · cases hc
end
end Mi

set_option maxHeartbeats 8000000
/-! D23: soundness on expressions: calls, methods, comprehensions, lists; all together. -/
namespace Mi
open PySem PySem.Spec PyProof.Rows L2
section
variable {Φ : Fns} {io : Nat → List Pk} {G : GT} {N : List Str} {ro : List Nat} {k : Nat}
theorem place_of {kw : List Nat} {os os' : List Op} (h : place kw os = some os') (hne : kw ≠ []) : kw.length = os.length ∧ kw.mapM (fun j => os[j]?) = some os' := by
  cases kw with
  | nil => exact (hne rfl).elim
  | cons j kw =>
    have h' : (if (j :: kw).length = os.length then (j :: kw).mapM fun j => os[j]? else none) = some os' := h
    split at h'
    · exact ⟨by assumption, h'⟩
    · cases h'
/-- a call, with whether what comes is new -/
theorem call_sound {f : Nat} {l lk : MEs} {kw : List Nat} (hl : SEs Φ io G N ro k l) (hk : SKw Φ io G N ro k lk) {X : Cx} {sc : Scope} {e : Expr} (g : Good X Φ io G N sc k) (hc : chkE G N ro (.call f l lk kw) sc e = true) {b : Bs} (hb : BsOk ro b X) {env : En} {d : PyData} {fr : Bool} {env' : En}
    (he : ((evos Φ io l env).bind fun p => (evos Φ io lk p.2).bind fun q => (place kw (p.1 ++ q.1)).bind fun os => callM Φ io f os q.2) = some ((d, fr), env')) : BE X b e env d fr env' ∧ plTest e = true := by
  simp only [chkE] at hc
  split at hc
  · rename_i y _ es kws _
    simp only [Bool.and_eq_true, decide_eq_true_eq] at hc
    obtain ⟨⟨⟨⟨⟨c1, c2⟩, c3⟩, c4⟩, c5⟩, c6⟩ := hc
    obtain ⟨⟨os, e1⟩, h1, he⟩ := Option.bind_eq_some_iff.mp he
    obtain ⟨⟨os2, e2⟩, h2, he⟩ := Option.bind_eq_some_iff.mp he
    obtain ⟨os', h3, h4⟩ := Option.bind_eq_some_iff.mp he
    obtain ⟨fa, fd, ps, F, m1, m2, m3, m4⟩ := g.fns f y c1
    have ns := chkEs_nost c4
    have k1 := (hl X sc es g c4 b hb env).2 os e1 h1
    obtain ⟨k2, kl⟩ := hk X sc kws g c5 b hb e1 os2 e2 h2
    refine ⟨?_, rfl⟩
    cases kws with
    | nil =>
      have hkw : kw = [] := by simpa using c6
      subst hkw
      have e0 : lk = .nil := by cases lk <;> first | rfl | cases c5
      subst e0
      cases h2
      have h3' : some (os ++ []) = some os' := h3
      rw [List.append_nil] at h3'
      cases h3'
      cases es with
      | nil =>
        have e0 : l = .nil := by cases l <;> first | rfl | cases c4
        subst e0
        cases h1
        exact be_call0 F g.room g.gds (g.gl c2) m1 m2 m3 h4 (dbg_of c3).1
      | cons e es => exact be_call F g.room g.gds (g.gl c2) m1 m2 m3 k1 h4 (dbg_of c3).1 (star_cons (ns e List.mem_cons_self)) (star_any fun y hy => ns y (List.mem_cons_of_mem _ hy))
    | cons kw0 kws0 =>
      have c6' : (G.kws.any fun p => decide (p.1 = f) && decide (p.2.1 = (kw0 :: kws0).filterMap (·.arg)) && decide (p.2.2 = kw) && !kw.isEmpty) = true := c6
      obtain ⟨⟨f', ks, kw'⟩, j1, j2⟩ := List.any_eq_true.mp c6'
      simp only [Bool.and_eq_true, decide_eq_true_eq, Bool.not_eq_true'] at j2
      obtain ⟨⟨⟨rfl, j3⟩, rfl⟩, j4⟩ := j2
      have hne : kw' ≠ [] := fun z => by rw [z] at j4; cases j4
      obtain ⟨p1, p2⟩ := place_of h3 hne
      obtain ⟨q1, q2, q3⟩ := kw_some (pos := ‹Pos›) (env := X.env) c5
      have bk := m4 _ j1 rfl
      have ek : ks = (kw0 :: kws0).filterMap (·.arg) := j3
      subst ek
      cases es with
      | nil =>
        have e0 : l = .nil := by cases l <;> first | rfl | cases c4
        subst e0
        cases h1
        exact be_callK0 F g.room g.gds (g.gl c2) m1 m2 bk k2 p1 kl p2 h4 (dbg_of c3).1 q1 q3 (by rw [q2]; rfl)
      | cons e es =>
        rw [List.length_append] at p1
        exact be_callK F g.room g.gds (g.gl c2) m1 m2 bk k1 k2 p1 kl p2 h4 (dbg_of c3).1 q1 q3 (star_cons (ns e List.mem_cons_self)) (by rw [q2, star_any ns]; rfl)
  · cases hc
theorem callT_sound {f f2 : Nat} {l : MEs} (hl : SEs Φ io G N ro k l) {X : Cx} {sc : Scope} {e : Expr} (g : Good X Φ io G N sc k) (hc : chkE G N ro (.callT f f2 l) sc e = true) {b : Bs} (hb : BsOk ro b X) {env : En} {d : PyData} {fr : Bool} {env' : En}
    (he : ((evos Φ io l env).bind fun p => (callM Φ io f2 p.1 p.2).bind fun q => callTM Φ io f q) = some ((d, fr), env')) : BE X b e env d fr env' ∧ plTest e = true := by
  simp only [chkE] at hc
  split at hc
  · rename_i y _ z _ x es _ _
    simp only [Bool.and_eq_true, decide_eq_true_eq] at hc
    obtain ⟨⟨⟨⟨⟨⟨c1, c2⟩, c3⟩, c4⟩, c5⟩, c6⟩, c7⟩ := hc
    obtain ⟨⟨os, e1⟩, h1, he⟩ := Option.bind_eq_some_iff.mp he
    obtain ⟨⟨⟨d1, fr1⟩, e2⟩, h2, h3⟩ := Option.bind_eq_some_iff.mp he
    obtain ⟨fa, fd, ps, F, m1, m2, m3, _⟩ := g.fns f y c1
    obtain ⟨fa', fd', ps', F', m1', m2', m3', _⟩ := g.fns f2 z c4
    have ns := chkEs_nost c7
    have k1 := (hl X sc (x :: es) g c7 b hb env).2 os e1 h1
    have k2 := be_call (pos := ‹Pos›) (p := ‹Pos›) F' g.room g.gds (g.gl c5) m1' m2' m3' k1 h2 (dbg_of c6).1 (star_cons (ns x List.mem_cons_self)) (star_any fun y hy => ns y (List.mem_cons_of_mem _ hy))
    refine ⟨be_callT F g.room g.gds (g.gl c2) m1 m2 m3 (r := (d1, fr1)) (be_call F' g.room g.gds (g.gl c5) m1' m2' m3' k1 h2 (dbg_of c6).1 (star_cons (ns x List.mem_cons_self)) (star_any fun y hy => ns y (List.mem_cons_of_mem _ hy))) h3 (dbg_of c3).1 rfl rfl, rfl⟩
  · cases hc
theorem sE_call {f : Nat} {l lk : MEs} {kw : List Nat} (hl : SEs Φ io G N ro k l) (hk : SKw Φ io G N ro k lk) : SE Φ io G N ro k (.call f l lk kw) := SE.of (fun _ z => nomatch z) fun X sc e g hc b hb env d' env' he => by
  have he' : ((evos Φ io l env).bind fun p => (evos Φ io lk p.2).bind fun q => (place kw (p.1 ++ q.1)).bind fun os => (callM Φ io f os q.2).map fun q => (q.1.1, q.2)) = some (d', env') := he
  obtain ⟨⟨os, e1⟩, h1, he'⟩ := Option.bind_eq_some_iff.mp he'
  obtain ⟨⟨os2, e2⟩, h2, he'⟩ := Option.bind_eq_some_iff.mp he'
  obtain ⟨os', h3, he'⟩ := Option.bind_eq_some_iff.mp he'
  obtain ⟨⟨⟨d, fr⟩, e3⟩, h4, h5⟩ := Option.map_eq_some_iff.mp he'
  cases h5
  obtain ⟨r1, r2⟩ := call_sound hl hk g hc hb (d := d) (fr := fr) (env' := e3) (env := env) (by rw [h1]; show (evos Φ io lk e1).bind _ = _; rw [h2]; show (place kw (os ++ os2)).bind _ = _; rw [h3]; exact h4)
  exact ⟨r1.to, r2⟩
theorem sE_callT {f f2 : Nat} {l : MEs} (hl : SEs Φ io G N ro k l) : SE Φ io G N ro k (.callT f f2 l) := SE.of (fun _ z => nomatch z) fun X sc e g hc b hb env d' env' he => by
  have he' : ((evos Φ io l env).bind fun p => (callM Φ io f2 p.1 p.2).bind fun q => (callTM Φ io f q).map fun q => (q.1.1, q.2)) = some (d', env') := he
  obtain ⟨⟨os, e1⟩, h1, he'⟩ := Option.bind_eq_some_iff.mp he'
  obtain ⟨q, h2, he'⟩ := Option.bind_eq_some_iff.mp he'
  obtain ⟨⟨⟨d, fr⟩, e3⟩, h4, h5⟩ := Option.map_eq_some_iff.mp he'
  cases h5
  obtain ⟨r1, r2⟩ := callT_sound hl g hc hb (d := d) (fr := fr) (env' := e3) (env := env) (by rw [h1]; show (callM Φ io f2 os e1).bind _ = _; rw [h2]; exact h4)
  exact ⟨r1.to, r2⟩
theorem m1_of {X : Cx} {o e : Expr} {n : Str} {apos cpos : Pos} (h1 : plBase o = true) (h2 : apos.endLine = cpos.line) (h3 : nost e = true) : M1 X o n apos e cpos := by
  have s1 : starEach [e] X.env = [(false, eval e X.env)] := star_cons h3
  exact ⟨base_of h1, by rw [s1]; rfl, by rw [h2]; exact beq_self_eq_true _, by rw [s1]; rfl⟩
theorem m2_of {X : Cx} {o e f : Expr} {n : Str} {apos cpos : Pos} (h1 : plBase o = true) (h2 : apos.endLine = cpos.line) (h3 : nost e = true) (h4 : nost f = true) : M2 X o n apos e f cpos := by
  have s1 : starEach [f] X.env = [(false, eval f X.env)] := star_cons h4
  have s2 : starEach [e, f] X.env = [(false, eval e X.env), (false, eval f X.env)] := by rw [star_cons h3, s1]
  exact ⟨base_of h1, by rw [s2]; rfl, by rw [h2]; exact beq_self_eq_true _, by rw [s2]; rfl⟩
end
end Mi

set_option maxHeartbeats 8000000
/-! D24: soundness on expressions, all together. -/
namespace Mi
open PySem PySem.Spec PyProof.Rows L2
section
variable {Φ : Fns} {io : Nat → List Pk} {G : GT} {N : List Str} {ro : List Nat} {k : Nat}
theorem sEs_nil : SEs Φ io G N ro k .nil := fun X sc es g hc b hb env => by
  cases es with
  | nil => exact ⟨fun ds env' he => by cases he; exact ba_nil, fun os env' he => by cases he; exact bao_nil⟩
  | cons => cases hc
theorem sEs_cons {a : ME} {l : MEs} (ha : SE Φ io G N ro k a) (hl : SEs Φ io G N ro k l) : SEs Φ io G N ro k (.cons a l) := fun X sc es g hc b hb env => by
  cases es with
  | nil => cases hc
  | cons e es =>
    simp only [chkEs, Bool.and_eq_true] at hc
    obtain ⟨⟨c1, c2⟩, c3⟩ := hc
    refine ⟨fun ds env' he => ?_, fun os env' he => ?_⟩
    · obtain ⟨⟨d, e1⟩, h1, he⟩ := Option.bind_eq_some_iff.mp (show (ev Φ io a env).bind (fun p => (evs Φ io l p.2).map fun q => (p.1 :: q.1, q.2)) = _ from he)
      obtain ⟨⟨ds', e2⟩, h2, h3⟩ := Option.map_eq_some_iff.mp he
      cases h3
      exact ba_cons ((ha X sc e g c2 b hb env).1 d e1 h1).1.to ((hl X sc es g c3 b hb e1).1 ds' e2 h2) (star_cons c1)
    · obtain ⟨⟨o, e1⟩, h1, he⟩ := Option.bind_eq_some_iff.mp (show (opd a env (ev Φ io a env)).bind (fun p => (evos Φ io l p.2).map fun q => (p.1 :: q.1, q.2)) = _ from he)
      obtain ⟨⟨os', e2⟩, h2, h3⟩ := Option.map_eq_some_iff.mp he
      cases h3
      exact bao_cons ((ha X sc e g c2 b hb env).2 o e1 h1) ((hl X sc es g c3 b hb e1).2 os' e2 h2) (star_cons c1)
theorem sKw_nil : SKw Φ io G N ro k .nil := fun X sc es g hc b hb env os env' he => by
  cases es with
  | nil => cases he; exact ⟨bko_nil, rfl⟩
  | cons => cases hc
theorem sKw_cons {a : ME} {l : MEs} (ha : SE Φ io G N ro k a) (hl : SKw Φ io G N ro k l) : SKw Φ io G N ro k (.cons a l) := fun X sc es g hc b hb env os env' he => by
  match es, hc with
  | [], hc => cases hc
  | ⟨none, e, p⟩ :: r, hc => cases hc
  | ⟨some n, e, p⟩ :: r, hc =>
    simp only [chkKw, Bool.and_eq_true] at hc
    obtain ⟨⟨o, e1⟩, h1, he⟩ := Option.bind_eq_some_iff.mp (show (opd a env (ev Φ io a env)).bind (fun p => (evos Φ io l p.2).map fun q => (p.1 :: q.1, q.2)) = _ from he)
    obtain ⟨⟨os', e2⟩, h2, h3⟩ := Option.map_eq_some_iff.mp he
    cases h3
    obtain ⟨k1, k2⟩ := hl X sc r g hc.2 b hb e1 os' e2 h2
    exact ⟨bko_cons ((ha X sc e g hc.1 b hb env).2 o e1 h1) k1, by show os'.length + 1 = (n :: r.filterMap (·.arg)).length; rw [k2]; rfl⟩
theorem sO_no : SO Φ io G N ro k .no := fun X sc e g hc b hb env o env' he => by
  cases e with
  | none => cases he; exact bp_none
  | some => cases hc
theorem sO_so {a : ME} (ha : SE Φ io G N ro k a) : SO Φ io G N ro k (.so a) := fun X sc e g hc b hb env o env' he => by
  cases e with
  | none => cases hc
  | some e =>
    obtain ⟨⟨d, e1⟩, h1, he⟩ := Option.bind_eq_some_iff.mp (show (ev Φ io a env).bind (fun p => (asInt p.1).map fun i => (some i, p.2)) = _ from he)
    obtain ⟨i, h2, h3⟩ := Option.map_eq_some_iff.mp he
    cases h3
    cases d with
    | int j => cases h2; exact bp_some ((ha X sc e g hc b hb env).1 _ _ h1).1.to
    | _ => cases h2
theorem sC_no : SC Φ io G N ro k .no := fun X sc e g hc b hb env t env' he => by
  cases e with
  | nil => cases he; exact bts_nil
  | cons => cases hc
theorem sC_so {a : ME} (ha : SE Φ io G N ro k a) : SC Φ io G N ro k (.so a) := fun X sc e g hc b hb env t env' he => by
  match e, hc with
  | [], hc => cases hc
  | [x], hc => exact bts_one (ha.tst g hc hb he)
  | _ :: _ :: _, hc => cases hc
theorem lt_of {d : PyData} {ds : List PyData} (h : ltItems d = some ds) : d = .list ds ∨ d = .tuple ds := by
  cases d <;> cases h
  · exact .inl rfl
  · exact .inr rfl
theorem sI_seq {a : ME} (ha : SE Φ io G N ro k a) : SI Φ io G N ro k (.seq a) := fun X sc tg e g hc b hb env ds env' he => by
  obtain ⟨⟨d, e1⟩, h1, he⟩ := Option.bind_eq_some_iff.mp (show (ev Φ io a env).bind (fun p => (seqItems p.1).map fun ds => (ds, p.2)) = _ from he)
  obtain ⟨i, h2, h3⟩ := Option.map_eq_some_iff.mp he
  cases h3
  exact bi_seq ((ha X sc e g hc b hb env).1 _ _ h1).1.to h2
theorem sI_rng {a : ME} (ha : SE Φ io G N ro k a) : SI Φ io G N ro k (.rng a) := fun X sc tg e g hc b hb env ds env' he => by
  simp only [chkI] at hc
  split at hc
  · simp only [Bool.and_eq_true, decide_eq_true_eq] at hc
    obtain ⟨⟨⟨rfl, c1⟩, c2⟩, c3⟩ := hc
    obtain ⟨⟨d, e1⟩, h1, he⟩ := Option.bind_eq_some_iff.mp (show (ev Φ io a env).bind _ = _ from he)
    cases d with
    | int j =>
      have he : (if -(2 ^ 62) ≤ j ∧ j < 2 ^ 62 then some (intsFrom 0 j.toNat, e1) else none) = some (ds, env') := he
      by_cases h2 : -(2 ^ 62) ≤ j ∧ j < 2 ^ 62
      · rw [if_pos h2] at he; cases he; exact bi_rng1 (g.gl c1) (g.bl (by decide)) ((ha X sc _ g c3 b hb env).1 _ _ h1).1.to h2.1 h2.2 (star_cons c2)
      · rw [if_neg h2] at he; cases he
    | _ => cases he
  · cases hc
theorem sI_rng2 {a c : ME} (ha : SE Φ io G N ro k a) (hc' : SE Φ io G N ro k c) : SI Φ io G N ro k (.rng2 a c) := fun X sc tg e g hc b hb env ds env' he => by
  simp only [chkI] at hc
  split at hc
  · simp only [Bool.and_eq_true, decide_eq_true_eq] at hc
    obtain ⟨⟨⟨⟨⟨rfl, c1⟩, c2⟩, c3⟩, c4⟩, c5⟩ := hc
    obtain ⟨⟨d, e1⟩, h1, he⟩ := Option.bind_eq_some_iff.mp (show (ev Φ io a env).bind _ = _ from he)
    obtain ⟨⟨d2, e2⟩, h2, he⟩ := Option.bind_eq_some_iff.mp he
    cases d with
    | int i =>
      cases d2 with
      | int j =>
        have he : (if -(2 ^ 62) ≤ i ∧ i < 2 ^ 62 ∧ -(2 ^ 62) ≤ j ∧ j < 2 ^ 62 then some (intsFrom i (j - i).toNat, e2) else none) = some (ds, env') := he
        by_cases h3 : -(2 ^ 62) ≤ i ∧ i < 2 ^ 62 ∧ -(2 ^ 62) ≤ j ∧ j < 2 ^ 62
        · rw [if_pos h3] at he
          cases he
          exact bi_rng2 (g.gl c1) (g.bl (by decide)) ((ha X sc _ g c4 b hb env).1 _ _ h1).1.to ((hc' X sc _ g c5 b hb e1).1 _ _ h2).1.to h3 (by rw [star_cons c2, star_cons c3]; rfl) (star_cons c3)
        · rw [if_neg h3] at he; cases he
      | _ => cases he
    | _ => cases he
  · cases hc
theorem tup_of {tg : Expr} (h : isTup tg = true) : ∃ es k p, tg = .Tuple es k p := by
  cases tg <;> first | exact ⟨_, _, _, rfl⟩ | cases h
theorem sI_enu {a : ME} (ha : SE Φ io G N ro k a) : SI Φ io G N ro k (.enu a) := fun X sc tg e g hc b hb env ds env' he => by
  simp only [chkI] at hc
  split at hc
  · simp only [Bool.and_eq_true, decide_eq_true_eq] at hc
    obtain ⟨⟨⟨⟨rfl, c1⟩, c2⟩, c3⟩, c4⟩ := hc
    obtain ⟨⟨d, e1⟩, h1, he⟩ := Option.bind_eq_some_iff.mp (show (ev Φ io a env).bind _ = _ from he)
    obtain ⟨i, h2, h3⟩ := Option.map_eq_some_iff.mp he
    cases h3
    obtain ⟨es, j, p, rfl⟩ := tup_of c3
    exact bi_enu (g.gl c1) (g.bl (by decide)) ((ha X sc _ g c4 b hb env).1 _ _ h1).1.to (lt_of h2) (star_cons c2)
  · cases hc
theorem sI_zip {a c : ME} (ha : SE Φ io G N ro k a) (hc' : SE Φ io G N ro k c) : SI Φ io G N ro k (.zip a c) := fun X sc tg e g hc b hb env ds env' he => by
  simp only [chkI] at hc
  split at hc
  · simp only [Bool.and_eq_true, decide_eq_true_eq] at hc
    obtain ⟨⟨⟨⟨⟨⟨rfl, c1⟩, c2⟩, c3⟩, c4⟩, c5⟩, c6⟩ := hc
    obtain ⟨⟨d, e1⟩, h1, he⟩ := Option.bind_eq_some_iff.mp (show (ev Φ io a env).bind _ = _ from he)
    obtain ⟨⟨d2, e2⟩, h2, he⟩ := Option.bind_eq_some_iff.mp he
    obtain ⟨xs, h3, he⟩ := Option.bind_eq_some_iff.mp he
    obtain ⟨ys, h4, h5⟩ := Option.map_eq_some_iff.mp he
    cases h5
    obtain ⟨es, j, p, rfl⟩ := tup_of c4
    exact bi_zip (g.gl c1) (g.bl (by decide)) ((ha X sc _ g c5 b hb env).1 _ _ h1).1.to ((hc' X sc _ g c6 b hb e1).1 _ _ h2).1.to (lt_of h3) (lt_of h4) (star_cons c2) (star_cons c3) (star_any (by simpa using c3))
  · cases hc
theorem opd_sl {me : ME} {env e1 : En} {r : Option (PyData × En)} {i : Nat} {d : PyData} (h : opd me env r = some (.sl i, e1)) (hd : rdO e1 (.sl i) = some d) : (∃ ds, d = .list ds) ∨ ∃ kvs, d = .dict kvs := by
  have nv : (∀ j, me ≠ .var j) → False := fun n => by
    rw [opd_nv n] at h
    obtain ⟨p, _, h2⟩ := Option.map_eq_some_iff.mp h
    cases h2
  cases me with
  | var j =>
    have h' : (match env[j]? with | some (.val d) => some (Op.dt d, env) | some (.own _) => some (.sl j, env) | some (.owd _) => some (.sl j, env) | some (.owt _) => some (.sl j, env) | some (.scr _) => some (.sl j, env) | _ => none) = some (.sl i, e1) := h
    cases e : env[j]? with
    | none => rw [e] at h'; cases h'
    | some s =>
      rw [e] at h'
      cases s with
      | un => cases h'
      | val _ => cases h'
      | own ds =>
        cases h'
        have hd' : (env[i]?).bind slD = some d := hd
        rw [e] at hd'; cases hd'
        exact .inl ⟨_, rfl⟩
      | owd ds =>
        cases h'
        have hd' : (env[i]?).bind slD = some d := hd
        rw [e] at hd'; cases hd'
        exact .inr ⟨_, rfl⟩
      | owt ds =>
        cases h'
        have hd' : (env[i]?).bind slD = some d := hd
        rw [e] at hd'; cases hd'
      | scr ds =>
        cases h'
        have hd' : (env[i]?).bind slD = some d := hd
        rw [e] at hd'; cases hd'
  | _ => exact (nv fun j z => nomatch z).elim
theorem opt_str {me : ME} {env e1 : En} {r : Option (PyData × En)} {o : Op} {z : Str} (h : opd me env r = some (o, e1)) (ht : (rdO e1 o).map tyN = some (tyN (.str z))) : ∀ i, o ≠ .sl i := fun i e => by
  subst e
  obtain ⟨d, h1, h2⟩ := Option.map_eq_some_iff.mp ht
  rcases opd_sl h h1 with ⟨ds, rfl⟩ | ⟨ds, rfl⟩
  · exact absurd h2 (by show "list" ≠ "str"; decide)
  · exact absurd h2 (by show "dict" ≠ "str"; decide)
theorem ty_dict {o : Option PyData} {kvs : List (PyData × PyData)} (h : o.map tyN = some (tyN (.dict kvs))) : ∃ ds, o = some (.dict ds) := by
  obtain ⟨d, h1, h2⟩ := Option.map_eq_some_iff.mp h
  cases d with
  | dict ds => exact ⟨ds, h1⟩
  | none => exact absurd h2 (by show "NoneType" ≠ "dict"; decide)
  | bool _ => exact absurd h2 (by show "bool" ≠ "dict"; decide)
  | int _ => exact absurd h2 (by show "int" ≠ "dict"; decide)
  | str _ => exact absurd h2 (by show "str" ≠ "dict"; decide)
  | list _ => exact absurd h2 (by show "list" ≠ "dict"; decide)
  | tuple _ => exact absurd h2 (by show "tuple" ≠ "dict"; decide)
theorem met_split {x y z : PyData} (h : metD .split x [y] = some z) : ∃ a c, x = .str a ∧ y = .str c ∧ c.length ≠ 0 ∧ a.length + 2 ≤ lim ∧ z = .list ((Txt.split a c).map .str) := by
  cases x with
  | str a =>
    cases y with
    | str c =>
      have h : (if c.length ≠ 0 ∧ a.length + 2 ≤ lim then some (PyData.list ((Txt.split a c).map .str)) else none) = some z := h
      split at h
      · rename_i hc; cases h; exact ⟨a, c, rfl, rfl, hc.1, hc.2, rfl⟩
      · cases h
    | _ => cases h
  | _ => cases h
theorem met_join {x y z : PyData} (h : metD .join x [y] = some z) : ∃ a ys, x = .str a ∧ y = .list (ys.map .str) ∧ (ys.map (·.length)).sum + ys.length * a.length ≤ lim ∧ (Txt.join a ys).length ≤ lim ∧ z = .str (Txt.join a ys) := by
  cases x with
  | str a =>
    cases y with
    | list ds =>
      obtain ⟨ys, h1, h2⟩ := Option.bind_eq_some_iff.mp (show (allStrs ds).bind _ = some z from h)
      split at h2
      · rename_i hc; cases h2; exact ⟨a, ys, rfl, by rw [allStrs_map h1], hc.1, hc.2, rfl⟩
      · cases h2
    | _ => cases h
  | _ => cases h
theorem met_get1 {x y z : PyData} (h : metD .get1 x [y] = some z) : ∃ kvs kk, x = .dict kvs ∧ keyOf y = some kk ∧ z = (lookD kvs y).getD .none := by
  cases x with
  | dict kvs =>
    obtain ⟨kk, h1, h2⟩ := Option.bind_eq_some_iff.mp (show (keyOf y).bind _ = some z from h)
    cases h2
    exact ⟨kvs, kk, rfl, h1, rfl⟩
  | _ => cases h
theorem met_get2 {x y w z : PyData} (h : metD .get2 x [y, w] = some z) : ∃ kvs kk, x = .dict kvs ∧ keyOf y = some kk ∧ z = (lookD kvs y).getD w := by
  cases x with
  | dict kvs =>
    obtain ⟨kk, h1, h2⟩ := Option.bind_eq_some_iff.mp (show (keyOf y).bind _ = some z from h)
    cases h2
    exact ⟨kvs, kk, rfl, h1, rfl⟩
  | _ => cases h
theorem sE_met {m : BM} {a : ME} {l : MEs} (ha : SE Φ io G N ro k a) (hl1 : ∀ x r, l = .cons x r → SE Φ io G N ro k x ∧ ∀ y r', r = .cons y r' → SE Φ io G N ro k y) : SE Φ io G N ro k (.met m a l) := SE.of (fun _ z => nomatch z) fun X sc e g hc b hb env d' env' he => by
  simp only [chkE] at hc
  split at hc
  · rename_i o n apos es cpos
    simp only [Bool.and_eq_true, decide_eq_true_eq] at hc
    obtain ⟨⟨⟨⟨c1, c2⟩, c3⟩, c4⟩, c5⟩ := hc
    obtain ⟨⟨oo, e1⟩, h1, he⟩ := Option.bind_eq_some_iff.mp (show (opd a env (ev Φ io a env)).bind _ = _ from he)
    obtain ⟨⟨os, e2⟩, h2, he⟩ := Option.bind_eq_some_iff.mp he
    obtain ⟨x, h3, he⟩ := Option.bind_eq_some_iff.mp he
    split at he
    · rename_i hty
      obtain ⟨ds, h4, he⟩ := Option.bind_eq_some_iff.mp he
      obtain ⟨z, h5, h6⟩ := Option.map_eq_some_iff.mp he
      cases h6
      refine ⟨?_, rfl⟩
      have k0 := (ha X sc o g c3 b hb env).2 oo e1 h1
      have hu : X.A.units + 1 < cLine := by have := g.hu; omega
      -- the first argument
      have one : ∀ {e : Expr}, es = [e] → ∃ oe, os = [oe] ∧ BO X b e e1 oe e2 ∧ nost e = true := fun {e} ee => by
        subst ee
        cases l with
        | nil => cases c4
        | cons x r =>
          simp only [chkEs, Bool.and_eq_true] at c4
          obtain ⟨⟨d1, d2⟩, d3⟩ := c4
          cases r with
          | cons => cases d3
          | nil =>
            obtain ⟨⟨oe, e3⟩, j1, j2⟩ := Option.bind_eq_some_iff.mp (show (opd x e1 (ev Φ io x e1)).bind (fun p => (evos Φ io .nil p.2).map fun q => (p.1 :: q.1, q.2)) = _ from h2)
            cases j2
            exact ⟨oe, rfl, ((hl1 x .nil rfl).1 X sc e g d2 b hb e1).2 oe e3 j1, d1⟩
      match m, es, c5 with
      | .split, [e], c5 =>
        obtain rfl : n = "split" := of_decide_eq_true c5
        obtain ⟨oe, rfl, k1, k2⟩ := one rfl
        have h4 : rdOs e2 [oe] = some ds := h4
        obtain ⟨y, hy, h4⟩ := Option.bind_eq_some_iff.mp (show (rdO e2 oe).bind (fun d => (rdOs e2 []).map (d :: ·)) = _ from h4)
        cases h4
        obtain ⟨p, q, rfl, rfl, m1, m2, rfl⟩ := met_split h5
        exact be_split k0 k1 h3 hy m1 m2 (star_cons k2) (base_of c1) (by rw [c2]; exact beq_self_eq_true _) (opt_str h1 hty)
      | .join, [e], c5 =>
        obtain rfl : n = "join" := of_decide_eq_true c5
        obtain ⟨oe, rfl, k1, k2⟩ := one rfl
        have h4 : rdOs e2 [oe] = some ds := h4
        obtain ⟨y, hy, h4⟩ := Option.bind_eq_some_iff.mp (show (rdO e2 oe).bind (fun d => (rdOs e2 []).map (d :: ·)) = _ from h4)
        cases h4
        obtain ⟨p, q, rfl, rfl, m1, m2, rfl⟩ := met_join h5
        exact be_join k0 k1 h3 hy m1 m2 (star_cons k2) (base_of c1) (by rw [c2]; exact beq_self_eq_true _) (opt_str h1 hty)
      | .get1, [e], c5 =>
        obtain rfl : n = "get" := of_decide_eq_true c5
        obtain ⟨oe, rfl, k1, k2⟩ := one rfl
        have h4 : rdOs e2 [oe] = some ds := h4
        obtain ⟨y, hy, h4⟩ := Option.bind_eq_some_iff.mp (show (rdO e2 oe).bind (fun d => (rdOs e2 []).map (d :: ·)) = _ from h4)
        cases h4
        obtain ⟨kvs, kk, rfl, m1, rfl⟩ := met_get1 h5
        obtain ⟨ds0, r0⟩ := ty_dict hty
        exact be_get1 hu k0 r0 k1 h3 hy m1 (m1_of c1 c2 k2)
      | .get2, [e, f], c5 =>
        obtain rfl : n = "get" := of_decide_eq_true c5
        cases l with
        | nil => cases c4
        | cons x1 r =>
          simp only [chkEs, Bool.and_eq_true] at c4
          obtain ⟨⟨d1, d2⟩, d3⟩ := c4
          cases r with
          | nil => cases d3
          | cons x2 r2 =>
            simp only [chkEs, Bool.and_eq_true] at d3
            obtain ⟨⟨f1, f2⟩, f3⟩ := d3
            cases r2 with
            | cons => cases f3
            | nil =>
              obtain ⟨⟨oe, e3⟩, j1, j2⟩ := Option.bind_eq_some_iff.mp (show (opd x1 e1 (ev Φ io x1 e1)).bind (fun p => (evos Φ io (.cons x2 .nil) p.2).map fun q => (p.1 :: q.1, q.2)) = _ from h2)
              obtain ⟨⟨os', e4⟩, j3, j4⟩ := Option.map_eq_some_iff.mp j2
              cases j4
              obtain ⟨⟨of_, e5⟩, j5, j6⟩ := Option.bind_eq_some_iff.mp (show (opd x2 e3 (ev Φ io x2 e3)).bind (fun p => (evos Φ io .nil p.2).map fun q => (p.1 :: q.1, q.2)) = _ from j3)
              cases j6
              have k1 := ((hl1 x1 _ rfl).1 X sc e g d2 b hb e1).2 oe e3 j1
              have k2 := ((hl1 x1 _ rfl).2 x2 _ rfl X sc f g f2 b hb e3).2 of_ e5 j5
              cases of_ with
              | sl i => cases h4
              | dt w =>
                obtain ⟨y, hy, h4⟩ := Option.map_eq_some_iff.mp (show (rdO e5 oe).map (fun k => [k, w]) = some ds from h4)
                subst h4
                obtain ⟨kvs, kk, rfl, m1, rfl⟩ := met_get2 h5
                obtain ⟨ds0, r0⟩ := ty_dict hty
                have k2' : BE X b f e3 w false e5 := k2
                exact be_get2 hu k0 r0 k1 k2' h3 hy m1 (m2_of c1 c2 d1 f1)
      | .split, [], c5 => cases c5
      | .split, _ :: _ :: _, c5 => cases c5
      | .join, [], c5 => cases c5
      | .join, _ :: _ :: _, c5 => cases c5
      | .get1, [], c5 => cases c5
      | .get1, _ :: _ :: _, c5 => cases c5
      | .get2, [], c5 => cases c5
      | .get2, [_], c5 => cases c5
      | .get2, _ :: _ :: _ :: _, c5 => cases c5
    · cases he
  · cases hc
theorem map_own (N : List Str) (vs : List Nat) : (vs.map fun i => (N.getD i "", i)).map (·.2) = vs := by
  rw [List.map_map]
  exact List.map_id vs
theorem sE_comp {vs : List Nat} {g : MG} {it : MI} {c : MO} {a : ME} (hi : SI Φ io G N ro k it) (hcc : SC Φ io G N ro k c) (ha : SE Φ io G N ro k a) : SE Φ io G N ro k (.comp vs g it c a) := SE.of (fun _ z => nomatch z) fun X sc e gd hc b hb env d' env' he => by
  simp only [chkE] at hc
  split at hc
  · rename_i elt tg iter ifs z scope _
    simp only [Bool.and_eq_true, decide_eq_true_eq] at hc
    obtain ⟨⟨⟨⟨⟨⟨⟨⟨rfl, c1⟩, c2⟩, c3⟩, c4⟩, c5⟩, c6⟩, c7⟩, c8⟩ := hc
    obtain ⟨⟨items, e1⟩, h1, he⟩ := Option.bind_eq_some_iff.mp (show (evI Φ io it env).bind (fun p => if vs.all (notOwn p.2) = true then (compL vs g (fun en => evC Φ io c en) (fun en => ev Φ io a en) p.1 [] p.2).map fun q => (PyData.list q.1, backE p.2 q.2 vs) else none) = _ from he)
    by_cases hv : vs.all (notOwn e1) = true
    · rw [if_pos hv] at he
      obtain ⟨⟨ds, e2⟩, h2, h3⟩ := Option.map_eq_some_iff.mp he
      cases h3
      have ok := blkOk_by c1
      have bk : ∀ b' : Bs, (b'.io = b.io ∧ b'.w = b.w) → ∀ s H0 C cl fp, BsOk ro b' (blkOf X scope s H0 C cl fp) := fun b' hb' s H0 C cl fp => ⟨by rw [hb'.1]; exact hb.1, hb'.2.trans hb.2⟩
      have core := lc_ok (X := X) (b := b) (scope := scope) (hi X sc tg iter gd c6 b hb env items e1 h1) hv (fun q hq hm => by
          have := List.all_eq_true.mp c2 q.1 hm
          exact of_decide_eq_true this (hb.1 q hq)) (fun i hi => of_decide_eq_true (List.all_eq_true.mp c3 i hi)) (fun s H0 C cl fp => chkG_ok (good_blk gd ok s H0 C cl fp) c5)
        (fun b' hb' en t en' hen s H0 C cl fp => hcc _ scope ifs (good_blk gd ok s H0 C cl fp) c7 b' (bk b' hb' s H0 C cl fp) en t en' hen)
        (fun b' hb' en d en' hen s H0 C cl fp => ((ha _ scope elt (good_blk gd ok s H0 C cl fp) c8 b' (bk b' hb' s H0 C cl fp) en).1 d en' hen).1.to) h2
      refine ⟨be_lc gd.calm gd.ndX (gd.blkOk ok) (fs_of c4) ?_, rfl⟩
      rw [map_own]
      exact core
    · rw [if_neg hv] at he; cases he
  · cases hc
mutual
theorem sE : ∀ me : ME, SE Φ io G N ro k me
  | .cst d => sE_cst d
  | .glo x d => sE_glo x d
  | .var i => sE_var i
  | .not_ a => sE_not (sE a)
  | .and_ a c => sE_and (sE a) (sE c)
  | .or_ a c => sE_or (sE a) (sE c)
  | .ife c a d => sE_ife (sE c) (sE a) (sE d)
  | .cmp op a c => sE_cmp (sE a) (sE c)
  | .chn o1 o2 a c d => sE_chn (sE a) (sE c) (sE d)
  | .bin op a c => sE_bin (sE a) (sE c)
  | .neg a => sE_neg (sE a)
  | .tup l => sE_tup (sEs l)
  | .lst l => sE_lst (sEs l)
  | .dct0 => sE_dct0
  | .idx a c => sE_idx (sE a) (sE c)
  | .slc a lo hi => sE_slc (sE a) (sO lo) (sO hi)
  | .rev a => sE_rev (sE a)
  | .isi a T => sE_isi (sE a)
  | .call f l lk kw => sE_call (sEs l) (sKw lk)
  | .callT f g l => sE_callT (sEs l)
  | .lzip a c => sE_lzip (sE a) (sE c)
  | .rpr a => sE_rpr (sE a)
  | .lset a => sE_lset (sE a)
  | .blt f l => sE_blt (sEs l)
  | .met m a .nil => sE_met (sE a) fun x r z => nomatch z
  | .met m a (.cons x .nil) => sE_met (sE a) fun x' r' z => by cases z; exact ⟨sE x, fun y r z => nomatch z⟩
  | .met m a (.cons x (.cons y r)) => sE_met (sE a) fun x' r' z => by cases z; exact ⟨sE x, fun y' r z => by cases z; exact sE y⟩
  | .comp vs g it c e => sE_comp (sI it) (sC c) (sE e)
theorem sEs : ∀ l : MEs, SEs Φ io G N ro k l
  | .nil => sEs_nil
  | .cons a l => sEs_cons (sE a) (sEs l)
theorem sKw : ∀ l : MEs, SKw Φ io G N ro k l
  | .nil => sKw_nil
  | .cons a l => sKw_cons (sE a) (sKw l)
theorem sO : ∀ m : MO, SO Φ io G N ro k m
  | .no => sO_no
  | .so a => sO_so (sE a)
theorem sC : ∀ m : MO, SC Φ io G N ro k m
  | .no => sC_no
  | .so a => sC_so (sE a)
theorem sI : ∀ m : MI, SI Φ io G N ro k m
  | .seq a => sI_seq (sE a)
  | .rng a => sI_rng (sE a)
  | .rng2 a c => sI_rng2 (sE a) (sE c)
  | .enu a => sI_enu (sE a)
  | .zip a c => sI_zip (sE a) (sE c)
end
/-- with whether what comes is new -/
theorem sF {me : ME} {X : Cx} {sc : Scope} {e : Expr} (g : Good X Φ io G N sc k) (hc : chkE G N ro me sc e = true) {b : Bs} (hb : BsOk ro b X) {env : En} {d : PyData} {fr : Bool} {env' : En} (he : evF Φ io me env = some ((d, fr), env')) : BE X b e env d fr env' := by
  have gen : (ev Φ io me env).map (fun p => ((p.1, frME me p.1), p.2)) = some ((d, fr), env') → BE X b e env d fr env' := fun h => by
    obtain ⟨⟨d', e'⟩, h1, h2⟩ := Option.map_eq_some_iff.mp h
    cases h2
    exact ((sE me X sc e g hc b hb env).1 _ _ h1).1
  cases me with
  | call f l lk kw => exact (call_sound (sEs l) (sKw lk) g hc hb he).1
  | callT f f2 l => exact (callT_sound (sEs l) g hc hb he).1
  | _ => exact gen he
end
end Mi

set_option maxHeartbeats 8000000
/-! D25: is a statement of the text the one of the small language? -/
namespace Mi
open PySem PySem.Spec PyProof.Rows L2

def notLc : Expr → Bool
  | .ListComp .. => false
  | .SetComp .. => false
  | .DictComp .. => false
  | _ => true
def notTupE : Expr → Bool
  | .Tuple .. => false
  | _ => true
def lcOk (sc : Scope) (x : Str) : Expr → Bool
  | .ListComp .. => decide (sc.names.lookup x = some .local)
  | e => notLc e
/-- are the stores of a parallel assignment swapped? -/
def swOk (sc : Scope) (ts : List (Str × Pos)) (vs : List Expr) : Bool := match ts with
  | [(x, px), (y, py)] => decide (sc.names.lookup x = some .local) && decide (sc.names.lookup y = some .local) && decide (py.line = px.line) && decide (x ≠ y) && vs.all nost && !vs.all (foldedForSure 8) && !vs.all (constantsAlone 8)
  | [(x, px), (y, py), (z, pz)] => decide (sc.names.lookup x = some .local) && decide (sc.names.lookup y = some .local) && decide (sc.names.lookup z = some .local) && decide (py.line = px.line) && decide (pz.line = px.line) && decide (x ≠ y) && decide (x ≠ z) && decide (y ≠ z) && vs.all nost && !vs.all (foldedForSure 8) && !vs.all (constantsAlone 8)
  | _ => false
section
variable (G : GT) (N : List Str) (ro : List Nat)
def chkT : MTs → Scope → List Expr → Bool
  | .nil, _, ts => match ts with
    | [] => true
    | _ => false
  | .cons (.nm i) l, sc, ts => match ts with
    | .Name x _ :: r => decide (N[i]? = some x) && asgC sc x && chkT l sc r
    | _ => false
  | .cons (.sb i k) l, sc, ts => match ts with
    | .Subscript (.Name x _) ke _ :: r => decide (N[i]? = some x) && visC sc x && notDbg x && plIx ke && chkE G N ro k sc ke && chkT l sc r
    | _ => false
mutual
def chkS : MS → Scope → Stmt → Bool
  | .asg i e, sc, s => match s with
    | .Assign [.Name x _] v _ => decide (N[i]? = some x) && asgC sc x && chkE G N ro e sc v && lcOk sc x v
    | _ => false
  | .asgs is es, sc, s => match s with
    | .Assign [.Tuple [.Name x px, .Name y py] _ _] (.Tuple [a, c] _ _) _ => (match is with
      | [i, j] => decide (N[i]? = some x) && decide (N[j]? = some y) && decide (i ≠ j) && swOk sc [(x, px), (y, py)] [a, c] && chkEs G N ro es sc [a, c]
      | _ => false)
    | .Assign [.Tuple [.Name x px, .Name y py, .Name z pz] _ _] (.Tuple [a, c, f] _ _) _ => (match is with
      | [i, j, l] => decide (N[i]? = some x) && decide (N[j]? = some y) && decide (N[l]? = some z) && decide (i ≠ j) && decide (i ≠ l) && decide (j ≠ l) && swOk sc [(x, px), (y, py), (z, pz)] [a, c, f] && chkEs G N ro es sc [a, c, f]
      | _ => false)
    | _ => false
  | .asgT l e, sc, s => match s with
    | .Assign [.Tuple ts _ _] v _ => notTupE v && notLc v && chkT G N ro l sc ts && chkE G N ro e sc v
    | _ => false
  | .put i kk e, sc, s => match s with
    | .Assign [.Subscript (.Name x _) ke _] v _ => decide (N[i]? = some x) && visC sc x && notDbg x && plIx ke && chkE G N ro kk sc ke && chkE G N ro e sc v
    | _ => false
  | .app i e, sc, s => match s with
    | .Expr (.Call (.Attribute (.Name x _) m apos) [v] [] cpos) _ => decide (m = "append") && decide (N[i]? = some x) && visC sc x && notDbg x && decide (apos.endLine = cpos.line) && nost v && chkE G N ro e sc v
    | _ => false
  | .ext i e, sc, s => match s with
    | .Expr (.Call (.Attribute (.Name x _) m apos) [v] [] cpos) _ => decide (m = "extend") && decide (N[i]? = some x) && visC sc x && notDbg x && decide (apos.endLine = cpos.line) && nost v && chkE G N ro e sc v
    | _ => false
  | .exp e, sc, s => match s with
    | .Expr v _ => notLc v && chkE G N ro e sc v
    | _ => false
  | .ifs c a b, sc, s => match s with
    | .If z p q _ => chkE G N ro c sc z && chkSs a sc p && chkSs b sc q
    | _ => false
  | .for_ g it b, sc, s => match s with
    | .For tg iter p [] _ => notSet iter && chkG N sc g tg && chkI G N ro it sc tg iter && chkSs b sc p
    | _ => false
  | .whl c b, sc, s => match s with
    | .While z p [] _ => chkE G N ro c sc z && chkSs b sc p
    | _ => false
  | .ret e, sc, s => match s with
    | .Return (some v) _ => chkE G N ro e sc v
    | _ => false
  | .retN, _, s => match s with
    | .Return none _ => true
    | _ => false
  | .brk, _, s => match s with
    | .Break _ => true
    | _ => false
  | .cnt, _, s => match s with
    | .Continue _ => true
    | _ => false
  | .pas, _, s => match s with
    | .Pass _ => true
    | .Expr (.Constant (.str _) _ _) _ => true
    | _ => false
  | .bad, _, _ => true
def chkSs : MSs → Scope → List Stmt → Bool
  | .nil, _, ss => match ss with
    | [] => true
    | _ => false
  | .cons s l, sc, ss => match ss with
    | st :: r => chkS s sc st && chkSs l sc r
    | _ => false
end
end

/-! ### side conditions -/
section
variable {env : Env}
theorem swaps_no {v : Expr} {t : Option Expr} {n : Nat} (h : notLc v = true) : swapsWith v t n env = pure false := by
  cases v <;> first | rfl | cases h
theorem swaps_sub {v : Expr} {o k : Expr} {p : Pos} {n : Nat} : swapsWith v (some (.Subscript o k p)) n env = pure false := by
  cases v <;> rfl
theorem swaps_lc {elt : Expr} {gens : List Comprehension} {scope : Scope} {p px : Pos} {x : Str} {n : Nat} : ∃ t : Bool, swapsWith (.ListComp elt gens scope p) (some (.Name x px)) n env = pure t := ⟨_, rfl⟩
theorem sw_nt {t : Expr} {v : Expr} (h : notTupE v = true) : swappedStores [t] v env = pure none := by
  cases t <;> cases v <;> first | rfl | cases h
theorem sw_sub {o k v : Expr} {p : Pos} : swappedStores [.Subscript o k p] v env = pure none := by
  cases v <;> rfl
theorem nst (e : Expr) (z : (match e with
    | .Starred _ _ => true
    | _ => false) = true) : nost e = true → False := fun h => by cases e <;> first | exact Bool.false_ne_true z | cases h
theorem sw_two {x y : Str} {px py pt pt2 : Pos} {a c : Expr} {k k2 : Nat} (hb : env.blockKind = .function) (h : swOk env.scope [(x, px), (y, py)] [a, c] = true) : swappedStores [.Tuple [.Name x px, .Name y py] k pt] (.Tuple [a, c] k2 pt2) env = pure (some [x, y]) := by
  simp only [swOk, Bool.and_eq_true, decide_eq_true_eq, Bool.not_eq_true', List.all_cons, List.all_nil, Bool.and_true] at h
  obtain ⟨⟨⟨⟨⟨⟨h1, h2⟩, h3⟩, h4⟩, h5, h5'⟩, h6⟩, h7⟩ := h
  have k1 : env.kindOf x = some .local := h1
  have k2 : env.kindOf y = some .local := h2
  have hxy : (x == y) = false := by simpa using h4
  have hyx : (y == x) = false := by simpa using Ne.symm h4
  unfold swappedStores
  simp [hb, k1, k2, h3, h6, h7, Expr.pos]
  rw [if_neg, if_pos]
  · simp [List.eraseDups, List.eraseDupsBy, List.eraseDupsBy.loop, hxy, hyx]
  · rintro (z | z)
    · exact nst a z h5
    · exact nst c z h5'
theorem sw_three {x y z : Str} {px py pz pt pt2 : Pos} {a c f : Expr} {k k2 : Nat} (hb : env.blockKind = .function) (h : swOk env.scope [(x, px), (y, py), (z, pz)] [a, c, f] = true) : swappedStores [.Tuple [.Name x px, .Name y py, .Name z pz] k pt] (.Tuple [a, c, f] k2 pt2) env = pure (some [x, y, z]) := by
  simp only [swOk, Bool.and_eq_true, decide_eq_true_eq, Bool.not_eq_true', List.all_cons, List.all_nil, Bool.and_true] at h
  obtain ⟨⟨⟨⟨⟨⟨⟨⟨⟨⟨h1, h2⟩, h3⟩, l1⟩, l2⟩, n1⟩, n2⟩, n3⟩, h5, h5', h5''⟩, h6⟩, h7⟩ := h
  have k1 : env.kindOf x = some .local := h1
  have k2 : env.kindOf y = some .local := h2
  have k3 : env.kindOf z = some .local := h3
  have e1 : (x == y) = false := by simpa using n1
  have e2 : (y == x) = false := by simpa using Ne.symm n1
  have e3 : (x == z) = false := by simpa using n2
  have e4 : (z == x) = false := by simpa using Ne.symm n2
  have e5 : (y == z) = false := by simpa using n3
  have e6 : (z == y) = false := by simpa using Ne.symm n3
  unfold swappedStores
  simp [hb, k1, k2, k3, l1, l2, h6, h7, Expr.pos]
  rw [if_neg, if_pos]
  · simp [List.eraseDups, List.eraseDupsBy, List.eraseDupsBy.loop, e1, e2, e3, e4, e5, e6]
  · rintro (z | z | z)
    · exact nst a z h5
    · exact nst c z h5'
    · exact nst f z h5''
end
end Mi

set_option maxHeartbeats 8000000
/-! D26: soundness on statements. -/
namespace Mi
open PySem PySem.Spec PyProof.Rows L2
structure GoodS (X : Cx) (Φ : Fns) (io : Nat → List Pk) (G : GT) (N : List Str) (sc : Scope) (k : Nat) : Prop where
  g : Good X Φ io G N sc k
  esc : X.env.scope = sc
  kind : sc.kind = .function
  pass : PassesOwn (model X.prog X.w) X.A X.env X.xe
section
variable {Φ : Fns} {io : Nat → List Pk} {G : GT} {N : List Str} {ro : List Nat} {k : Nat}
theorem GoodS.blk {X : Cx} {sc : Scope} (g : GoodS X Φ io G N sc k) : X.env.blockKind = .function := by
  unfold Env.blockKind
  rw [g.esc, g.kind]
  rfl
section
variable (Φ io G N ro k)
def SS (s : MS) : Prop := ∀ (X : Cx) (sc : Scope) (st : Stmt), GoodS X Φ io G N sc k → chkS G N ro s sc st = true → ∀ b : Bs, BsOk ro b X → ∀ env fl env', ex Φ io ro s env = some (fl, env') → BS X b st env fl env'
def SSs (l : MSs) : Prop := ∀ (X : Cx) (sc : Scope) (st : List Stmt), GoodS X Φ io G N sc k → chkSs G N ro l sc st = true → ∀ b : Bs, BsOk ro b X → ∀ env fl env', exs Φ io ro l env = some (fl, env') → BSs X b st env fl env'
def ST (l : MTs) : Prop := ∀ (X : Cx) (sc : Scope) (ts : List Expr), GoodS X Φ io G N sc k → chkT G N ro l sc ts = true → ∀ b : Bs, BsOk ro b X → ∀ env ds env', exT Φ io ro l ds env = some env' → BGT X b ts ds env env' ∧ ds.length = ts.length ∧ (assignEach ts X.env).length = ts.length ∧ (assignEach ts X.env).findIdx? (·.1) = none
end
theorem ioNe {b : Bs} {X : Cx} (hb : BsOk ro b X) {i : Nat} (h : i ∉ ro) : ∀ q ∈ b.io, q.1 ≠ i := fun q hq e => h (e ▸ hb.1 q hq)
theorem isOwnS_iff {env : En} {i : Nat} (h : isOwnS env i = true) : ∃ s, env[i]? = some s ∧ s.isOwn = true := by
  unfold isOwnS at h
  split at h
  · exact ⟨_, by assumption, rfl⟩
  · exact ⟨_, by assumption, rfl⟩
  · exact ⟨_, by assumption, rfl⟩
  · cases h
/-- the comprehension that goes into a name on its own line -/
theorem comp_core {vs : List Nat} {g : MG} {it : MI} {c : MO} {a : ME} {X : Cx} {sc : Scope} {elt : Expr} {gens : List Comprehension} {scope : Scope} {p : Pos} (gd : Good X Φ io G N sc k) (hc : chkE G N ro (.comp vs g it c a) sc (.ListComp elt gens scope p) = true) {b : Bs} (hb : BsOk ro b X) {env : En} {d : PyData} {env' : En}
    (he : ev Φ io (.comp vs g it c a) env = some (d, env')) : ∃ tg iter ifs own ds, gens = [⟨tg, iter, ifs, 0⟩] ∧ d = .list ds ∧ BlkOk X.N X.env.scope scope own ∧ (∀ x, foldedSetIterable iter X.env x = pure x) ∧
      ∀ F σ H, Stt X.K b F σ H env → ∀ Q : VK, (∀ v F' H', Same F F' → Stt X.K b F' σ H' env' → Rz X.K b F' σ H' env' v (.list ds) true → Q v H') → tLc (WI X tg iter) (UG X scope tg) (UT X scope ifs) (UE X scope elt) (own.map (·.2)) σ H Q := by
  simp only [chkE] at hc
  split at hc
  · rename_i elt' tg iter ifs z scope' _ eq
    cases eq
    simp only [Bool.and_eq_true, decide_eq_true_eq] at hc
    obtain ⟨⟨⟨⟨⟨⟨⟨⟨rfl, c1⟩, c2⟩, c3⟩, c4⟩, c5⟩, c6⟩, c7⟩, c8⟩ := hc
    obtain ⟨⟨items, e1⟩, h1, he⟩ := Option.bind_eq_some_iff.mp (show (evI Φ io it env).bind (fun p => if vs.all (notOwn p.2) = true then (compL vs g (fun en => evC Φ io c en) (fun en => ev Φ io a en) p.1 [] p.2).map fun q => (PyData.list q.1, backE p.2 q.2 vs) else none) = _ from he)
    by_cases hv : vs.all (notOwn e1) = true
    · rw [if_pos hv] at he
      obtain ⟨⟨ds, e2⟩, h2, h3⟩ := Option.map_eq_some_iff.mp he
      cases h3
      have ok := blkOk_by c1
      have bk : ∀ b' : Bs, (b'.io = b.io ∧ b'.w = b.w) → ∀ s H0 C cl fp, BsOk ro b' (blkOf X scope s H0 C cl fp) := fun b' hb' s H0 C cl fp => ⟨by rw [hb'.1]; exact hb.1, hb'.2.trans hb.2⟩
      have core := lc_ok (X := X) (b := b) (scope := scope) (sI it X sc tg iter gd c6 b hb env items e1 h1) hv (fun q hq hm => by
          have := List.all_eq_true.mp c2 q.1 hm
          exact of_decide_eq_true this (hb.1 q hq)) (fun i hi => of_decide_eq_true (List.all_eq_true.mp c3 i hi)) (fun s H0 C cl fp => chkG_ok (good_blk gd ok s H0 C cl fp) c5)
        (fun b' hb' en t en' hen s H0 C cl fp => sC c _ scope ifs (good_blk gd ok s H0 C cl fp) c7 b' (bk b' hb' s H0 C cl fp) en t en' hen)
        (fun b' hb' en d en' hen s H0 C cl fp => ((sE a _ scope elt (good_blk gd ok s H0 C cl fp) c8 b' (bk b' hb' s H0 C cl fp) en).1 d en' hen).1.to) h2
      refine ⟨tg, iter, ifs, vs.map fun i => (N.getD i "", i), ds, rfl, rfl, gd.blkOk ok, fs_of c4, ?_⟩
      rw [map_own]
      exact core
    · rw [if_neg hv] at he; cases he
  · cases hc
theorem lc_me {me : ME} {sc : Scope} {elt : Expr} {gens : List Comprehension} {scope : Scope} {p : Pos} (hc : chkE G N ro me sc (.ListComp elt gens scope p) = true) : ∃ vs g it c a, me = .comp vs g it c a := by
  cases me <;> first | exact ⟨_, _, _, _, _, rfl⟩ | cases hc
theorem sS_asg {i : Nat} {e : ME} : SS Φ io G N ro k (.asg i e) := fun X sc st g hc b hb env fl env' he => by
  simp only [chkS] at hc
  split at hc
  · rename_i x px v pos
    simp only [Bool.and_eq_true, decide_eq_true_eq] at hc
    obtain ⟨⟨⟨c1, c2⟩, c3⟩, c4⟩ := hc
    have he : (if i ∉ ro then (evF Φ io e env).map fun p => (Fl.nx, p.2.set i (toSl p.1.2 p.1.1)) else none) = some (fl, env') := he
    split at he
    · rename_i hro
      obtain ⟨⟨⟨d, fr⟩, e1⟩, h1, h2⟩ := Option.map_eq_some_iff.mp he
      cases h2
      have k1 := sF g.g c3 hb h1
      obtain ⟨l1, l2⟩ := g.g.loc c2
      have plain : swapsWith v (some (.Name x px)) pos.line X.env = pure false → BS X b (.Assign [.Name x px] v pos) env .nx (e1.set i (toSl fr d)) := fun hs =>
        bs_asg g.g.ndX (g.g.ix c1) (ioNe hb hro) l1 l2 k1 hs
      by_cases hv : notLc v = true
      · exact plain (swaps_no hv)
      · have c4' := c4
        cases v with
        | ListComp elt gens scope pv =>
          obtain ⟨t, ht⟩ := swaps_lc (env := X.env) (elt := elt) (gens := gens) (scope := scope) (p := pv) (px := px) (x := x) (n := pos.line)
          cases t with
          | false => exact plain ht
          | true =>
            obtain ⟨vs, gg, it, c, a, rfl⟩ := lc_me c3
            obtain ⟨⟨d', e'⟩, j1, j2⟩ := Option.map_eq_some_iff.mp (show (ev Φ io (.comp vs gg it c a) env).map (fun p => ((p.1, frME (.comp vs gg it c a) p.1), p.2)) = _ from h1)
            cases j2
            obtain ⟨tg, iter, ifs, own, ds, rfl, rfl, m1, m2, m3⟩ := comp_core g.g c3 hb j1
            have hxl : X.env.scope.names.lookup x = some .local := by rw [g.esc]; exact of_decide_eq_true c4'
            exact bs_asgLc g.g.ndX (g.g.ix c1) (ioNe hb hro) g.g.calm hxl ht m1 m2 m3
        | _ => exact (hv c4').elim
    · cases he
  · cases hc
theorem sBaf {l : MEs} : ∀ {es : List Expr} {X : Cx} {sc : Scope}, Good X Φ io G N sc k → chkEs G N ro l sc es = true → ∀ b : Bs, BsOk ro b X → ∀ {env : En} {ds : List (PyData × Bool)} {env' : En}, evsF Φ io l env = some (ds, env') → BAF X b es env ds env' := by
  intro es
  match l, es with
  | .nil, [] => intro X sc g hc b hb env ds env' he; cases he; exact baf_nil
  | .nil, _ :: _ => intro X sc g hc; cases hc
  | .cons a l, [] => intro X sc g hc; cases hc
  | .cons a l, e :: es =>
    intro X sc g hc b hb env ds env' he
    simp only [chkEs, Bool.and_eq_true] at hc
    obtain ⟨⟨c1, c2⟩, c3⟩ := hc
    obtain ⟨⟨⟨d, fr⟩, e1⟩, h1, he⟩ := Option.bind_eq_some_iff.mp (show (evF Φ io a env).bind (fun p => (evsF Φ io l p.2).map fun q => (p.1 :: q.1, q.2)) = _ from he)
    obtain ⟨⟨ds', e2⟩, h2, h3⟩ := Option.map_eq_some_iff.mp he
    cases h3
    exact baf_cons (sF g c2 hb h1) (fun b' hb' => sBaf g c3 b' ⟨by rw [hb'.1]; exact hb.1, hb'.2.trans hb.2⟩ h2) (star_cons c1)
theorem sS_asgs {is : List Nat} {es : MEs} : SS Φ io G N ro k (.asgs is es) := fun X sc st g hc b hb env fl env' he => by
  have he : (if is.all (fun i => decide (i ∉ ro)) = true then (evsF Φ io es env).bind fun p => (asgAll is p.1 p.2).map fun e => (Fl.nx, e) else none) = some (fl, env') := he
  split at he
  · rename_i hro
    obtain ⟨⟨ds, e1⟩, h1, he⟩ := Option.bind_eq_some_iff.mp he
    obtain ⟨e2, h2, h3⟩ := Option.map_eq_some_iff.mp he
    cases h3
    have hio : ∀ q ∈ b.io, q.1 ∉ is := fun q hq hm => of_decide_eq_true (List.all_eq_true.mp hro q.1 hm) (hb.1 q hq)
    simp only [chkS] at hc
    split at hc
    · rename_i x px y py _ _ a c _ _ _
      split at hc
      · rename_i i j
        simp only [Bool.and_eq_true, decide_eq_true_eq] at hc
        obtain ⟨⟨⟨⟨c1, c2⟩, c3⟩, c4⟩, c5⟩ := hc
        have hx : X.env.scope.names.lookup x = some .local := by
          rw [g.esc]; simp only [swOk, Bool.and_eq_true, decide_eq_true_eq] at c4; exact c4.1.1.1.1.1.1
        have hy : X.env.scope.names.lookup y = some .local := by
          rw [g.esc]; simp only [swOk, Bool.and_eq_true, decide_eq_true_eq] at c4; exact c4.1.1.1.1.1.2
        exact bs_par g.g.calm g.g.ndX (g.g.ix c1) (g.g.ix c2) c3 hx hy (sBaf g.g c5 b hb h1) h2 hio (sw_two g.blk (by rw [g.esc]; exact c4))
      · cases hc
    · rename_i x px y py z pz _ _ a c f _ _ _
      split at hc
      · rename_i i j l
        simp only [Bool.and_eq_true, decide_eq_true_eq] at hc
        obtain ⟨⟨⟨⟨⟨⟨⟨c1, c2⟩, c3⟩, c4⟩, c5⟩, c6⟩, c7⟩, c8⟩ := hc
        have c7' := c7
        simp only [swOk, Bool.and_eq_true, decide_eq_true_eq] at c7'
        obtain ⟨⟨⟨⟨⟨⟨⟨⟨⟨⟨m1, m2⟩, m3⟩, _⟩, _⟩, _⟩, _⟩, _⟩, _⟩, _⟩, _⟩ := c7'
        exact bs_par3 g.g.calm g.g.ndX (g.g.ix c1) (g.g.ix c2) (g.g.ix c3) c4 c5 c6 (by rw [g.esc]; exact m1) (by rw [g.esc]; exact m2) (by rw [g.esc]; exact m3) (sBaf g.g c8 b hb h1) h2 hio (sw_three g.blk (by rw [g.esc]; exact c7))
      · cases hc
    · cases hc
  · cases he
theorem sole {t v : Expr} {n : Nat} {env : Env} : swapsWithSole [t] v n env = swapsWith v (some t) n env := rfl
theorem asg_sub {env : Env} {o i : Expr} {pos : Pos} (h : plIx i = true) (v : Value) : assign (.Subscript o i pos) env v = (do
      let ov ← holding [v] (eval o env)
      let iv ← holding [v, ov] (eval i env)
      standAt pos
      holding [v, ov, iv] (setItem ov iv v)
      release [v, ov, iv] []) := by
  cases i <;> first | rfl | cases h
theorem sST : ∀ l : MTs, ST Φ io G N ro k l
  | .nil => fun X sc ts g hc b hb env ds env' he => by
    cases ts with
    | nil =>
      cases ds with
      | nil => cases he; exact ⟨bgt_nil, rfl, rfl, rfl⟩
      | cons => cases he
    | cons => cases hc
  | .cons (.nm i) l => fun X sc ts g hc b hb env ds env' he => by
    simp only [chkT] at hc
    split at hc
    · rename_i x p r
      simp only [Bool.and_eq_true, decide_eq_true_eq] at hc
      obtain ⟨⟨c1, c2⟩, c3⟩ := hc
      cases ds with
      | nil => cases he
      | cons d ds =>
        have he : (if i ∉ ro then exT Φ io ro l ds (env.set i (.val d)) else none) = some env' := he
        split at he
        · rename_i hro
          obtain ⟨k1, k2, k3, k4⟩ := sST l X sc r g c3 b hb _ ds env' he
          obtain ⟨l1, l2⟩ := g.g.loc c2
          refine ⟨bgt_cons (bg1_nm g.g.ndX (g.g.ix c1) l1 l2 (ioNe hb hro)) k1 rfl, by rw [List.length_cons, List.length_cons, k2], ?_, ?_⟩
          · show (assignEach r X.env).length + 1 = _
            rw [k3]; rfl
          · show ((false, _) :: assignEach r X.env).findIdx? (·.1) = none
            rw [List.findIdx?_cons, k4]; rfl
        · cases he
    · cases hc
  | .cons (.sb i kk) l => fun X sc ts g hc b hb env ds env' he => by
    simp only [chkT] at hc
    split at hc
    · rename_i x p ke _ r
      simp only [Bool.and_eq_true, decide_eq_true_eq] at hc
      obtain ⟨⟨⟨⟨⟨c1, c2⟩, c3⟩, c0⟩, c4⟩, c5⟩ := hc
      cases ds with
      | nil => cases he
      | cons d ds =>
        have he : (if isOwnS env i = true then (ev Φ io kk env).bind fun p => (p.2[i]?).bind fun s => (putS s p.1 d).bind fun s' => exT Φ io ro l ds (p.2.set i s') else none) = some env' := he
        split at he
        · rename_i hown
          obtain ⟨⟨kd, e1⟩, h1, he⟩ := Option.bind_eq_some_iff.mp he
          obtain ⟨s, h2, he⟩ := Option.bind_eq_some_iff.mp he
          obtain ⟨s', h3, he⟩ := Option.bind_eq_some_iff.mp he
          obtain ⟨k1, k2, k3, k4⟩ := sST l X sc r g c5 b hb _ ds env' he
          refine ⟨bgt_cons (bg1_sb (by have := g.g.hu; omega) hb.2 (g.g.ix c1) (g.g.vis c2) (dbg_of c3).1 (dbg_of c3).2 ((sE kk X sc ke g.g c4 b hb env).1 kd e1 h1).1.to (isOwnS_iff hown) h2 h3 (asg_sub c0)) k1 rfl, by rw [List.length_cons, List.length_cons, k2], ?_, ?_⟩
          · show (assignEach r X.env).length + 1 = _
            rw [k3]; rfl
          · show ((false, _) :: assignEach r X.env).findIdx? (·.1) = none
            rw [List.findIdx?_cons, k4]; rfl
        · cases he
    · cases hc
theorem sS_asgT {l : MTs} {e : ME} : SS Φ io G N ro k (.asgT l e) := fun X sc st g hc b hb env fl env' he => by
  simp only [chkS] at hc
  split at hc
  · rename_i ts _ _ v pos
    simp only [Bool.and_eq_true] at hc
    obtain ⟨⟨⟨c1, c2⟩, c3⟩, c4⟩ := hc
    obtain ⟨⟨d, e1⟩, h1, he⟩ := Option.bind_eq_some_iff.mp (show (ev Φ io e env).bind _ = _ from he)
    cases d with
    | tuple ds =>
      obtain ⟨e2, h2, h3⟩ := Option.map_eq_some_iff.mp (show (exT Φ io ro l ds e1).map (fun e => (Fl.nx, e)) = _ from he)
      cases h3
      obtain ⟨k1, k2, k3, k4⟩ := sST l X sc ts g c3 b hb e1 ds _ h2
      exact bs_asgT g.g.calm ((sE e X sc v g.g c4 b hb env).1 _ e1 h1).1.to k1 k2 k3 k4 (by rw [sole]; exact swaps_no c2) (sw_nt c1)
    | _ => cases he
  · cases hc
theorem sS_put {i : Nat} {kk e : ME} : SS Φ io G N ro k (.put i kk e) := fun X sc st g hc b hb env fl env' he => by
  simp only [chkS] at hc
  split at hc
  · rename_i x _ ke _ v pos
    simp only [Bool.and_eq_true, decide_eq_true_eq] at hc
    obtain ⟨⟨⟨⟨⟨c1, c2⟩, c3⟩, c0⟩, c4⟩, c5⟩ := hc
    obtain ⟨⟨d, e1⟩, h1, he⟩ := Option.bind_eq_some_iff.mp (show (ev Φ io e env).bind (fun p => if isOwnS p.2 i = true then (ev Φ io kk p.2).bind fun q => (q.2[i]?).bind fun s => (putS s q.1 p.1).map fun s' => (Fl.nx, q.2.set i s') else none) = _ from he)
    have he : (if isOwnS e1 i = true then (ev Φ io kk e1).bind fun q => (q.2[i]?).bind fun s => (putS s q.1 d).map fun s' => (Fl.nx, q.2.set i s') else none) = some (fl, env') := he
    split at he
    · rename_i hown
      obtain ⟨⟨kd, e2⟩, h2, he⟩ := Option.bind_eq_some_iff.mp he
      obtain ⟨s, h3, he⟩ := Option.bind_eq_some_iff.mp he
      obtain ⟨s', h4, h5⟩ := Option.map_eq_some_iff.mp he
      cases h5
      exact bs_put ((sE e X sc v g.g c5 b hb env).1 _ e1 h1).1.to (bg1_sb (by have := g.g.hu; omega) hb.2 (g.g.ix c1) (g.g.vis c2) (dbg_of c3).1 (dbg_of c3).2 ((sE kk X sc ke g.g c4 b hb e1).1 kd e2 h2).1.to (isOwnS_iff hown) h3 h4 (asg_sub c0)) (by rw [sole]; exact swaps_sub) sw_sub rfl
    · cases he
  · cases hc
theorem few_of {X : Cx} {v : Expr} {cpos : Pos} (h : nost v = true) : ((backTo cpos (starEach [v] X.env)).all (fun x => !x.1) && (backToKw cpos (keywordEach [] X.env)).all (fun x => x.1.isSome) && decide (([v] : List Expr).length + ([] : List Keyword).length + (if ([] : List Keyword).isEmpty then 0 else 1) < 30)) = true := by
  rw [star_cons h]; rfl
theorem sS_app {i : Nat} {e : ME} : SS Φ io G N ro k (.app i e) := fun X sc st g hc b hb env fl env' he => by
  simp only [chkS] at hc
  split at hc
  · rename_i x _ m apos v cpos _
    simp only [Bool.and_eq_true, decide_eq_true_eq] at hc
    obtain ⟨⟨⟨⟨⟨⟨rfl, c1⟩, c2⟩, c3⟩, c4⟩, c5⟩, c6⟩ := hc
    have he : (if isOwnL env i = true then (ev Φ io e env).bind fun p => match p.2[i]? with
      | some (.own ds) => if ds.length < lim then some (Fl.nx, p.2.set i (.own (ds ++ [p.1]))) else none
      | _ => none
    else none) = some (fl, env') := he
    split at he
    · rename_i hown
      obtain ⟨⟨d, e1⟩, h1, he⟩ := Option.bind_eq_some_iff.mp he
      dsimp only at he
      split at he
      · rename_i ds hds
        split at he
        · rename_i hlen
          cases he
          exact bs_app (g.g.ix c1) (g.g.vis c2) (dbg_of c3).1 (dbg_of c3).2 ((sE e X sc v g.g c6 b hb env).1 _ e1 h1).1.to (isOwnL_iff.mp hown) hds hlen rfl (few_of c5) (by rw [c4]; exact beq_self_eq_true _) (star_cons c5) rfl
        · cases he
      · cases he
    · cases he
  · cases hc
theorem sS_ext {i : Nat} {e : ME} : SS Φ io G N ro k (.ext i e) := fun X sc st g hc b hb env fl env' he => by
  simp only [chkS] at hc
  split at hc
  · rename_i x _ m apos v cpos _
    simp only [Bool.and_eq_true, decide_eq_true_eq] at hc
    obtain ⟨⟨⟨⟨⟨⟨rfl, c1⟩, c2⟩, c3⟩, c4⟩, c5⟩, c6⟩ := hc
    have he : (if isOwnL env i = true then (ev Φ io e env).bind fun p => match p.2[i]?, p.1 with
      | some (.own ds), .list es => if ds.length + es.length ≤ lim then some (Fl.nx, p.2.set i (.own (ds ++ es))) else none
      | _, _ => none
    else none) = some (fl, env') := he
    split at he
    · rename_i hown
      obtain ⟨⟨d, e1⟩, h1, he⟩ := Option.bind_eq_some_iff.mp he
      dsimp only at he
      split at he
      · rename_i _ _ ds es hds
        split at he
        · rename_i hlen
          cases he
          exact bs_ext (g.g.ix c1) (g.g.vis c2) (dbg_of c3).1 (dbg_of c3).2 ((sE e X sc v g.g c6 b hb env).1 _ e1 h1).1.to (isOwnL_iff.mp hown) hds hlen rfl (few_of c5) (by rw [c4]; exact beq_self_eq_true _) (star_cons c5) rfl
        · cases he
      · cases he
    · cases he
  · cases hc
end
end Mi

set_option maxHeartbeats 8000000
/-! D27: soundness on statements, all together. -/
namespace Mi
open PySem PySem.Spec PyProof.Rows L2
section
variable {Φ : Fns} {io : Nat → List Pk} {G : GT} {N : List Str} {ro : List Nat} {k : Nat}
theorem sS_exp {e : ME} : SS Φ io G N ro k (.exp e) := fun X sc st g hc b hb env fl env' he => by
  simp only [chkS] at hc
  split at hc
  · simp only [Bool.and_eq_true] at hc
    obtain ⟨⟨d, e1⟩, h1, h2⟩ := Option.map_eq_some_iff.mp (show (ev Φ io e env).map (fun p => (Fl.nx, p.2)) = _ from he)
    cases h2
    exact bs_exp ((sE e X sc _ g.g hc.2 b hb env).1 d _ h1).1 (swaps_no hc.1)
  · cases hc
theorem sS_ifs {c : ME} {p q : MSs} (hp : SSs Φ io G N ro k p) (hq : SSs Φ io G N ro k q) : SS Φ io G N ro k (.ifs c p q) := fun X sc st g hc b hb env fl env' he => by
  simp only [chkS] at hc
  split at hc
  · simp only [Bool.and_eq_true] at hc
    obtain ⟨⟨c1, c2⟩, c3⟩ := hc
    obtain ⟨⟨t, e1⟩, h1, h2⟩ := Option.bind_eq_some_iff.mp (show (tstO (opd c env (ev Φ io c env))).bind (fun r => if r.1 = true then exs Φ io ro p r.2 else exs Φ io ro q r.2) = _ from he)
    refine bs_if ((sE c).tst g.g c1 hb h1) (fun z => ?_) fun z => ?_
    · subst z; exact hp X sc _ g c2 b hb e1 fl env' h2
    · subst z; exact hq X sc _ g c3 b hb e1 fl env' h2
  · cases hc
theorem gOk_of {m : MG} (h : gOk ro m = true) : ∀ i ∈ tgsOf m, i ∉ ro := by
  cases m with
  | nm i =>
    intro j hj
    rw [List.mem_singleton.mp hj]
    exact of_decide_eq_true h
  | tp l => intro j hj; exact of_decide_eq_true (List.all_eq_true.mp h j hj)
theorem sS_for {m : MG} {it : MI} {p : MSs} (hp : SSs Φ io G N ro k p) : SS Φ io G N ro k (.for_ m it p) := fun X sc st g hc b hb env fl env' he => by
  simp only [chkS] at hc
  split at hc
  · simp only [Bool.and_eq_true] at hc
    obtain ⟨⟨⟨c0, c1⟩, c2⟩, c3⟩ := hc
    have he : (if gOk ro m = true then (evI Φ io it env).bind fun r => forL m (fun e => exs Φ io ro p e) r.1 r.2 else none) = some (fl, env') := he
    split at he
    · rename_i hg
      obtain ⟨⟨items, e1⟩, h1, h2⟩ := Option.bind_eq_some_iff.mp he
      exact bs_for g.pass g.g.calm (sI it X sc _ _ g.g c2 b hb env items e1 h1) (chkG_ok g.g c1) (fun q hq hm => gOk_of hg q.1 hm (hb.1 q hq)) (fun en fl en' hen => hp X sc _ g c3 b hb en fl en' hen) h2 (fs_of c0)
    · cases he
  · cases hc
theorem sS_whl {c : ME} {p : MSs} (hp : SSs Φ io G N ro k p) : SS Φ io G N ro k (.whl c p) := fun X sc st g hc b hb env fl env' he => by
  simp only [chkS] at hc
  split at hc
  · simp only [Bool.and_eq_true] at hc
    exact bs_while (cf := fun e => tstO (opd c e (ev Φ io c e))) (body := fun e => exs Φ io ro p e) (n := 100000) g.pass (fun en t en' hen => (sE c).tst g.g hc.1 hb hen) (fun en fl en' hen => hp X sc _ g hc.2 b hb en fl en' hen) he
  · cases hc
theorem sS_ret {e : ME} : SS Φ io G N ro k (.ret e) := fun X sc st g hc b hb env fl env' he => by
  simp only [chkS] at hc
  split at hc
  · rename_i v pos
    have he : exR Φ io ro e env = some (fl, env') := he
    have plain : (evF Φ io e env).map (fun p => (Fl.rt p.1.1 p.1.2, p.2)) = some (fl, env') → BS X b (.Return (some v) pos) env fl env' := fun h => by
      obtain ⟨⟨⟨d, fr⟩, e1⟩, h1, h2⟩ := Option.map_eq_some_iff.mp h
      cases h2
      exact bs_ret (sF g.g hc hb h1)
    cases e with
    | var i =>
      cases v with
      | Name x px =>
        have fz : (evVar i env).map (fun p => (Fl.rt p.1 false, p.2)) = some (fl, env') → BS X b (.Return (some (.Name x px)) pos) env fl env' := fun h => by
          obtain ⟨⟨d, e1⟩, h1, h2⟩ := Option.map_eq_some_iff.mp h
          cases h2
          exact bs_ret ((sE (.var i) X sc _ g.g hc b hb env).1 d _ h1).1
        simp only [chkE, Bool.and_eq_true, decide_eq_true_eq] at hc
        obtain ⟨⟨c1, c2⟩, c3⟩ := hc
        unfold exR at he
        dsimp only at he
        split at he
        · split at he
          · rename_i ds hds
            cases he
            exact bs_retV (g.g.ix c1) (g.g.vis c2) (dbg_of c3).1 (dbg_of c3).2 hds rfl rfl
          · rename_i ds hds
            cases he
            exact bs_retV (g.g.ix c1) (g.g.vis c2) (dbg_of c3).1 (dbg_of c3).2 hds rfl rfl
          · exact fz he
        · exact fz he
      | _ => cases hc
    | _ => exact plain he
  · cases hc
theorem sS_retN : SS Φ io G N ro k .retN := fun X sc st g hc b hb env fl env' he => by
  simp only [chkS] at hc
  split at hc
  · cases he; exact bs_retN
  · cases hc
theorem sS_brk : SS Φ io G N ro k .brk := fun X sc st g hc b hb env fl env' he => by
  simp only [chkS] at hc
  split at hc
  · cases he; exact bs_brk
  · cases hc
theorem sS_cnt : SS Φ io G N ro k .cnt := fun X sc st g hc b hb env fl env' he => by
  simp only [chkS] at hc
  split at hc
  · cases he; exact bs_cnt
  · cases hc
theorem sS_pas : SS Φ io G N ro k .pas := fun X sc st g hc b hb env fl env' he => by
  simp only [chkS] at hc
  split at hc
  · cases he; exact bs_pass
  · cases he; exact bs_doc
  · cases hc
theorem sSs_nil : SSs Φ io G N ro k .nil := fun X sc st g hc b hb env fl env' he => by
  cases st with
  | nil => cases he; exact bss_nil
  | cons => cases hc
theorem sSs_cons {s : MS} {l : MSs} (hs : SS Φ io G N ro k s) (hl : SSs Φ io G N ro k l) : SSs Φ io G N ro k (.cons s l) := fun X sc st g hc b hb env fl env' he => by
  cases st with
  | nil => cases hc
  | cons t r =>
    simp only [chkSs, Bool.and_eq_true] at hc
    obtain ⟨⟨f1, e1⟩, h1, h2⟩ := Option.bind_eq_some_iff.mp (show (ex Φ io ro s env).bind (fun p => match p.1 with
      | .nx => exs Φ io ro l p.2
      | f => some (f, p.2)) = _ from he)
    have k1 := hs X sc t g hc.1 b hb env f1 e1 h1
    cases f1 with
    | nx => exact bss_nx k1 (hl X sc r g hc.2 b hb e1 fl env' h2)
    | bk => cases h2; exact bss_end k1 (fun z => nomatch z)
    | ct => cases h2; exact bss_end k1 (fun z => nomatch z)
    | rt d fr => cases h2; exact bss_end k1 (fun z => nomatch z)
mutual
theorem sS : ∀ s : MS, SS Φ io G N ro k s
  | .asg i e => sS_asg
  | .asgs is es => sS_asgs
  | .asgT l e => sS_asgT
  | .put i kk e => sS_put
  | .app i e => sS_app
  | .ext i e => sS_ext
  | .exp e => sS_exp
  | .ifs c p q => sS_ifs (sSs p) (sSs q)
  | .for_ m it p => sS_for (sSs p)
  | .whl c p => sS_whl (sSs p)
  | .ret e => sS_ret
  | .retN => sS_retN
  | .brk => sS_brk
  | .cnt => sS_cnt
  | .pas => sS_pas
  | .bad => fun X sc st g hc b hb env fl env' he => by cases he
theorem sSs : ∀ l : MSs, SSs Φ io G N ro k l
  | .nil => sSs_nil
  | .cons s l => sSs_cons (sS s) (sSs l)
end
end

/-! ### defs -/
section
variable {K : PySem.W.Frag} {F H : Hp} {w : World}
/-- a parameter at the entry of a def -/
def PreS (K : PySem.W.Frag) (F H : Hp) (ps : List Addr) : Sl → V → Prop
  | .val d, v => Rv K F v d
  | .own xs, v => ∃ p ws, v = .ref p ∧ p ∈ ps ∧ H p = some (.lst ws) ∧ F p = none ∧ RvAll K F ws xs
  | .scr xs, v => ∃ p ws, v = .ref p ∧ SqL K F p ws ∧ RvAll K F ws xs
  | _, _ => False
theorem PreS.more {ps qs : List Addr} (hs : ∀ p ∈ ps, p ∈ qs) {s : Sl} {v : V} (h : PreS K F H ps s v) : PreS K F H qs s v := by
  cases s with
  | val d => exact h
  | own xs => obtain ⟨p, ws, h1, h2, h3⟩ := h; exact ⟨p, ws, h1, hs p h2, h3⟩
  | scr xs => exact h
  | un => exact h
  | owd d => exact h
  | owt d => exact h
structure PreOk (K : PySem.W.Frag) (F H : Hp) (io : List Pk) (vs : List V) (ps : List Addr) (pre : En) : Prop where
  len : pre.length = vs.length
  sl : ∀ (i : Nat) (s : Sl), pre[i]? = some s → ∃ v, vs[i]? = some v ∧ PreS K F H ps s v
  nd : ps.Nodup → ∀ (i j : Nat) (p : Addr), ownAt pre i → ownAt pre j → vs[i]? = some (.ref p) → vs[j]? = some (.ref p) → i = j
  il : ∀ kk, (ioIx io kk).length = ps.length
  ix : ∀ kk, ∀ q ∈ (ioIx io kk).zip ps, ∃ i, q.1 = kk + i ∧ vs[i]? = some (.ref q.2)
theorem own_cons {s : Sl} {pre : En} {i : Nat} : ownAt (s :: pre) (i + 1) ↔ ownAt pre i := by
  unfold ownAt
  rw [List.getElem?_cons_succ]
theorem ArgsOk.start {io : List Pk} {vs : List V} {ds : List PyData} {ps : List Addr} (h : ArgsOk K F H io vs ds ps) : ∀ {n : Nat} {env : En}, startE io ds n = some env → ∃ pre : En, env = pre ++ List.replicate n .un ∧ PreOk K F H io vs ps pre := by
  induction h with
  | nil => intro n env e; cases e; exact ⟨[], rfl, ⟨rfl, fun i s hs => by simp at hs, fun _ i j p hi => by obtain ⟨s, h, _⟩ := hi; simp at h, fun _ => rfl, fun kk q hq => by cases hq⟩⟩
  | v r _ ih =>
    intro n env e
    obtain ⟨env', e1, rfl⟩ := Option.map_eq_some_iff.mp e
    obtain ⟨pre, rfl, P⟩ := ih e1
    refine ⟨_ :: pre, rfl, ⟨by rw [List.length_cons, List.length_cons, P.len], fun i s hs => ?_, fun hn i j p hi hj h1 h2 => ?_, fun kk => P.il (kk + 1), fun kk q hq => ?_⟩⟩
    · cases i with
      | zero => cases hs; exact ⟨_, rfl, r⟩
      | succ i => exact P.sl i s (by simpa using hs)
    · cases i with
      | zero => obtain ⟨s, h, h'⟩ := hi; cases h; cases h'
      | succ i =>
        cases j with
        | zero => obtain ⟨s, h, h'⟩ := hj; cases h; cases h'
        | succ j => rw [P.nd hn i j p (own_cons.mp hi) (own_cons.mp hj) (by simpa using h1) (by simpa using h2)]
    · obtain ⟨i, h1, h2⟩ := P.ix (kk + 1) q hq
      exact ⟨i + 1, by omega, by simpa using h2⟩
  | io h1 h2 r _ ih =>
    intro n env e
    obtain ⟨env', e1, rfl⟩ := Option.map_eq_some_iff.mp e
    obtain ⟨pre, rfl, P⟩ := ih e1
    rename_i p ws xs io vs ds ps _
    refine ⟨_ :: pre, rfl, ⟨by rw [List.length_cons, List.length_cons, P.len], fun i s hs => ?_, fun hn i j p' hi hj k1 k2 => ?_, fun kk => by show (ioIx io (kk + 1)).length + 1 = _; rw [P.il (kk + 1)]; rfl, fun kk q hq => ?_⟩⟩
    · cases i with
      | zero => cases hs; exact ⟨_, rfl, p, ws, rfl, List.mem_cons_self, h1, h2, r⟩
      | succ i =>
        obtain ⟨v, g1, g2⟩ := P.sl i s (by simpa using hs)
        exact ⟨v, by simpa using g1, g2.more fun q hq => List.mem_cons_of_mem _ hq⟩
    · rw [List.nodup_cons] at hn
      have later : ∀ {i : Nat}, ownAt pre i → vs[i]? ≠ some (.ref p) := fun {i} ⟨s, g1, g2⟩ g3 => by
        obtain ⟨v, g4, g5⟩ := P.sl i s g1
        rw [g4] at g3; cases g3
        cases s with
        | own xs => obtain ⟨q, ws', g6, g7, _⟩ := g5; cases g6; exact hn.1 g7
        | owd d => exact g5
        | owt d => exact g5
        | un => cases g2
        | val d => cases g2
        | scr d => cases g2
      cases i with
      | zero =>
        cases j with
        | zero => rfl
        | succ j => cases k1; exact (later (own_cons.mp hj) (by simpa using k2)).elim
      | succ i =>
        cases j with
        | zero => cases k2; exact (later (own_cons.mp hi) (by simpa using k1)).elim
        | succ j => rw [P.nd hn.2 i j p' (own_cons.mp hi) (own_cons.mp hj) (by simpa using k1) (by simpa using k2)]
    · have hq' : q ∈ (kk, p) :: (ioIx io (kk + 1)).zip ps := hq
      rcases List.mem_cons.mp hq' with rfl | hq
      · exact ⟨0, rfl, rfl⟩
      · obtain ⟨i, g1, g2⟩ := P.ix (kk + 1) q hq
        exact ⟨i + 1, by omega, by simpa using g2⟩
  | sc h1 r _ ih =>
    intro n env e
    obtain ⟨env', e1, rfl⟩ := Option.map_eq_some_iff.mp e
    obtain ⟨pre, rfl, P⟩ := ih e1
    rename_i p ws xs io vs ds ps _
    refine ⟨_ :: pre, rfl, ⟨by rw [List.length_cons, List.length_cons, P.len], fun i s hs => ?_, fun hn i j p hi hj h1 h2 => ?_, fun kk => P.il (kk + 1), fun kk q hq => ?_⟩⟩
    · cases i with
      | zero => cases hs; exact ⟨_, rfl, p, ws, rfl, h1, r⟩
      | succ i => exact P.sl i s (by simpa using hs)
    · cases i with
      | zero => obtain ⟨s, h, h'⟩ := hi; cases h; cases h'
      | succ i =>
        cases j with
        | zero => obtain ⟨s, h, h'⟩ := hj; cases h; cases h'
        | succ j => rw [P.nd hn i j p (own_cons.mp hi) (own_cons.mp hj) (by simpa using h1) (by simpa using h2)]
    · obtain ⟨i, h1, h2⟩ := P.ix (kk + 1) q hq
      exact ⟨i + 1, by omega, by simpa using h2⟩
/-- the frame of a body at its entry -/
theorem start_stt {io : List Pk} {vs : List V} {ds : List PyData} {ps : List Addr} (w : World) (h : ArgsOk K F H io vs ds ps) (hF : Same F H) (hn : ps.Nodup) {N : List Str} (hl : vs.length ≤ N.length) {env : En} (he : startE io ds (N.length - vs.length) = some env) :
    Stt K ⟨cut H ps, F, (ioIx io 0).zip ps, w⟩ F (start N vs) H env := by
  obtain ⟨pre, rfl, P⟩ := h.start he
  have get : ∀ {i : Nat} {v : V}, vs[i]? = some v → (start N vs)[i]? = some (some v) := fun {i v} e => by
    have hi : i < vs.length := by obtain ⟨x, _⟩ := List.getElem?_eq_some_iff.mp e; exact x
    unfold L2.start
    rw [List.getElem?_append_left (by simpa using hi), List.getElem?_map, e]; rfl
  have pref : ∀ {i : Nat} {s : Sl}, (pre ++ List.replicate (N.length - vs.length) Sl.un)[i]? = some s → pre[i]? = some s ∨ s = .un := fun {i s} e => by
    by_cases hi : i < pre.length
    · rw [List.getElem?_append_left hi] at e; exact .inl e
    · rw [List.getElem?_append_right (by omega), List.getElem?_replicate] at e
      split at e
      · cases e; exact .inr rfl
      · cases e
  have own : ∀ {i : Nat}, ownAt (pre ++ List.replicate (N.length - vs.length) Sl.un) i → ownAt pre i := fun {i} ⟨s, e1, e2⟩ => by
    rcases pref e1 with e1 | rfl
    · exact ⟨s, e1, e2⟩
    · cases e2
  refine ⟨hF, fun a o e => ?_, Same.refl F, fun a _ h => h, ?_, fun i s hs => ?_, fun i j p hi hj h1 h2 => ?_, fun q hq => ?_⟩
  · have e : cut H ps a = some o := e
    unfold cut at e
    split at e
    · cases e
    · exact e
  · unfold L2.start
    rw [List.length_append, List.length_append, List.length_replicate, List.length_replicate, List.length_map, P.len]
  · rcases pref hs with hs | rfl
    · obtain ⟨v, g1, g2⟩ := P.sl i s hs
      have g := get g1
      cases s with
      | val d => exact ⟨v, g, g2⟩
      | own xs => obtain ⟨p, ws, rfl, k2, k3, k4, k5⟩ := g2; exact ⟨p, ws, g, k3, k4, cut_in k2, k5⟩
      | scr xs => obtain ⟨p, ws, rfl, k2, k3⟩ := g2; exact ⟨p, ws, g, k2, k3⟩
      | un => trivial
      | owd d => exact g2.elim
      | owt d => exact g2.elim
    · trivial
  · have bk : ∀ {i : Nat}, ownAt pre i → (start N vs)[i]? = some (some (.ref p)) → vs[i]? = some (.ref p) := fun {i} ⟨s, g1, _⟩ g2 => by
      obtain ⟨v, g3, _⟩ := P.sl i s g1
      rw [get g3] at g2; cases g2
      exact g3
    exact P.nd hn i j p (own hi) (own hj) (bk (own hi) h1) (bk (own hj) h2)
  · obtain ⟨i, g1, g2⟩ := P.ix 0 q hq
    have : q.1 = i := by omega
    rw [this]
    exact get g2
/-- what has become of the lists at the end -/
theorem outs_ok {b : Bs} {F : Hp} {σ : L2.St} {H : Hp} {env : En} (S : Stt K b F σ H env) : ∀ {is : List Nat} {ps : List Addr} {outs : List (List PyData)}, is.length = ps.length → (∀ q ∈ is.zip ps, q ∈ b.io) → outsOf env is = some outs → OutsOk K F H ps outs ∧ ∀ p ∈ ps, F p = none ∧ OwnP env σ p
  | [], [], _, _, _, e => by cases e; exact ⟨.nil, fun p hp => by cases hp⟩
  | [], _ :: _, _, hl, _, _ => by cases hl
  | _ :: _, [], _, hl, _, _ => by cases hl
  | i :: is, p :: ps, outs, hl, hb, e => by
    have e' : (match env[i]? with
      | some (.own ds) => (outsOf env is).map (ds :: ·)
      | _ => none) = some outs := e
    split at e'
    · rename_i ds hds
      obtain ⟨os, e1, rfl⟩ := Option.map_eq_some_iff.mp e'
      obtain ⟨k1, k2⟩ := outs_ok S (is := is) (ps := ps) (by simpa using hl) (fun q hq => hb q (List.mem_cons_of_mem _ hq)) e1
      obtain ⟨q, vs, h1, h2, h3, h4, h5⟩ := S.sl i _ hds
      have h6 := S.ios (i, p) (hb (i, p) List.mem_cons_self)
      rw [h1] at h6; cases h6
      refine ⟨.cons h2 h5 k1, fun q hq => ?_⟩
      rcases List.mem_cons.mp hq with rfl | hq
      · exact ⟨h3, i, ⟨_, hds, rfl⟩, h1⟩
      · exact k2 q hq
    · cases e'
end
end Mi

set_option maxHeartbeats 8000000
/-! D28: the defs of a module: what run tells is what they do. -/
namespace Mi
open PySem PySem.Spec PyProof.Rows L2
/-- names of a def's scope: the parameters first -/
def scopeC (N P : List Str) (sc : Scope) : Bool :=
  decide (sc.kind = .function) && !sc.isCoroutine && !sc.isGenerator && decide N.Nodup && decide (N.take P.length = P) && P.all (fun x => decide (sc.names.lookup x = some .local) || decide (sc.names.lookup x = some .cell)) && sc.names.all (fun y => !decide (y.2 = .free))
theorem scopeC_ok {N P : List Str} {sc : Scope} (h : scopeC N P sc = true) : FnScope N P sc := by
  unfold scopeC at h
  simp only [Bool.and_eq_true, Bool.not_eq_true', decide_eq_true_eq, List.all_eq_true, Bool.or_eq_true, decide_eq_false_iff_not] at h
  obtain ⟨⟨⟨⟨⟨⟨h1, h2⟩, h3⟩, h4⟩, h5⟩, h6⟩, h7⟩ := h
  exact ⟨h1, h2, h3, h4, h5, h6, h7⟩
/-- is the def of the text the one of the small language? -/
def chkD (G : GT) (fi : FI) (st : Stmt) : Bool := scopeC fi.N fi.ps (defScope st) && chkSs G fi.N (ioIx fi.io 0) fi.body (defScope st) (defBody st)
section
variable {P : Program} {w : World} {K : PySem.W.Frag} {mg : Str → Option Value} {base : Heap} {G : GT} {T : List FE}
theorem ArgsOk.il {F H : Hp} {io : List Pk} {vs : List V} {ds : List PyData} {ps : List Addr} (h : ArgsOk K F H io vs ds ps) : ∀ kk, (ioIx io kk).length = ps.length := by
  induction h with
  | nil => intro; rfl
  | v _ _ ih => intro kk; exact ih (kk + 1)
  | io _ _ _ _ ih => intro kk; show (ioIx _ (kk + 1)).length + 1 = _; rw [ih]; rfl
  | sc _ _ _ ih => intro kk; exact ih (kk + 1)
/-- what the callers of the defs know, at a level -/
def Lv (P : Program) (w : World) (K : PySem.W.Frag) (mg : Str → Option Value) (base : Heap) (G : GT) (T : List FE) (n : Nat) : Prop :=
  ∀ f x, G.fnm[f]? = some x → ∃ fa fd ps, FnG P w K mg base n fa fd ps (spFn K (run T n) (ioOf T f) f) ∧ mg x = some (.ref fa) ∧ PySem.W.keepIn K (.ref fa) = true ∧ Binds K fd ps [] ∧ ∀ p ∈ G.kws, p.1 = f → BindsK K fd ps p.2.1 p.2.2
/-- what stands behind the top -/
structure TabD (P : Program) (w : World) (K : PySem.W.Frag) (mg : Str → Option Value) (base : Heap) (G : GT) (T : List FE) (sts : List Stmt) : Prop where
  one : ∀ f x, G.fnm[f]? = some x → ∃ fe st fa fd ps, T[f]? = some fe ∧ sts[f]? = some st ∧ Fun K x x st fa fd ∧ mg x = some (.ref fa) ∧ Binds K fd ps [] ∧ (∀ p ∈ G.kws, p.1 = f → BindsK K fd ps p.2.1 p.2.2) ∧
    (match fe with
      | .code fi => fi.ps = ps ∧ chkD G fi st = true
      | .hand io g => ∀ n, Lv P w K mg base G T n → FnG P w K mg base (n + 1) fa fd ps (spFn K (run T (n + 1)) io f))
  blt : ∀ x ∈ bltNames, mg x = none
  cst : ∀ p ∈ G.cst, ∃ v u, mg p.1 = some u ∧ RelV v u ∧ Sc v p.2
theorem body_ok {Φ : Fns} {io : Nat → List Pk} {fi : FI} {st : Stmt} {X : Cx} {k : Nat} (hX : GoodS X Φ io G fi.N (defScope st) k) (hc : chkSs G fi.N (ioIx fi.io 0) fi.body (defScope st) (defBody st) = true)
    {F H : Hp} {vs : List V} {ds : List PyData} {r : PyData × Bool} {outs : List (List PyData)} {ps : List Addr} (hr : runD Φ io fi ds = some (r, outs)) (hF : Same F H) (ha : ArgsOk X.K F H fi.io vs ds ps) (hn : ps.Nodup) {Q : VK}
    (q : ∀ v F' H', Same F F' → Same F' H' → (∀ a o, H a = some o → a ∉ ps → H' a = some o) → (∀ a, F' a ≠ none → F a ≠ none ∨ H a = none) → OutsOk X.K F' H' ps outs → ResOk X.K H F' H' v r → Q v H') :
    WSs X (defBody st) { nx := fun _ H' => Q .non H', rt := Q } (L2.start fi.N vs) H := by
  have hr : (if fi.io.length = fi.ps.length ∧ fi.ps.length ≤ fi.N.length then
    (startE fi.io ds (fi.N.length - fi.ps.length)).bind fun env => (exs Φ io (ioIx fi.io 0) fi.body env).bind fun p =>
      (outsOf p.2 (ioIx fi.io 0)).bind fun outs => match p.1 with
        | .rt d fr => some ((d, fr), outs)
        | .nx => some ((.none, false), outs)
        | _ => none
    else none) = some (r, outs) := hr
  split at hr
  · rename_i hlen
    obtain ⟨env, h1, hr⟩ := Option.bind_eq_some_iff.mp hr
    obtain ⟨⟨fl, env'⟩, h2, hr⟩ := Option.bind_eq_some_iff.mp hr
    obtain ⟨outs', h3, hr⟩ := Option.bind_eq_some_iff.mp hr
    have hvl : vs.length = fi.ps.length := by rw [ha.len, hlen.1]
    have S0 := start_stt X.w ha hF hn (N := fi.N) (by rw [hvl]; exact hlen.2) (by rw [hvl]; exact h1)
    have hb : BsOk (ioIx fi.io 0) ⟨cut H ps, F, (ioIx fi.io 0).zip ps, X.w⟩ X := ⟨fun q hq => (List.of_mem_zip (a := q.1) (b := q.2) hq).1, rfl⟩
    refine sSs fi.body X (defScope st) (defBody st) hX hc ⟨cut H ps, F, (ioIx fi.io 0).zip ps, X.w⟩ hb env fl env' h2 F _ H S0 _ fun σ' F' H' k1 S' => ?_
    obtain ⟨o1, o2⟩ := outs_ok S' (ha.il 0) (fun q hq => hq) h3
    have fin : ∀ {v : V} {d : PyData} {fr : Bool}, r = (d, fr) → outs = outs' → Rz X.K ⟨cut H ps, F, (ioIx fi.io 0).zip ps, X.w⟩ F' σ' H' env' v d fr → Q v H' := fun {v d fr} er eo rz => by
      subst er eo
      refine q v F' H' k1 S'.fh (fun a o e hm => S'.bh a o (by show cut H ps a = some o; rw [cut_of hm]; exact e)) (fun a ha' => ?_) o1 ?_
      · by_cases hm : a ∈ ps
        · exact absurd (o2 a hm).1 ha'
        · cases e : H a with
          | none => exact .inr rfl
          | some o => exact .inl (S'.nw a (by show cut H ps a ≠ none; rw [cut_of hm, e]; simp) ha')
      · have new : ∀ p, cut H ps p = none → ¬ OwnP env' σ' p → H p = none := fun p e no => by
          by_cases hm : p ∈ ps
          · exact (no (o2 p hm).2).elim
          · rw [cut_of hm] at e; exact e
        cases fr with
        | false => exact rz
        | true =>
          cases d with
          | list ds => obtain ⟨p, ws, e1, e2, e3, e4, e5, e6⟩ := rz; exact ⟨p, ws, e1, new p e3 e4, e2, e5, e6⟩
          | dict ds => obtain ⟨p, ws, e1, e2, e3, e4, e5, e6⟩ := rz; exact ⟨p, ws, e1, new p e3 e4, e2, e5, e6⟩
          | none => exact rz
          | bool x => exact rz
          | int x => exact rz
          | str x => exact rz
          | tuple x => exact rz
    cases fl with
    | nx => cases hr; exact fin rfl rfl Rv.non
    | rt d fr => cases hr; exact fun v rz => fin rfl rfl rz
    | bk => cases hr
    | ct => cases hr
  · cases hr
/-- what the defs do, at every level -/
theorem lv_ok {sts : List Stmt} (D : TabD P w K mg base G T sts) : ∀ n, Lv P w K mg base G T n
  | 0 => fun f x hf => by
    obtain ⟨fe, st, fa, fd, ps, h1, h2, h3, h4, h5, h6, h7⟩ := D.one f x hf
    refine ⟨fa, fd, ps, ⟨fun vs H Q E h => ?_, fun A outer s H args us vs Q E _ _ _ _ _ h => ?_⟩, h4, h3.kp, h5, h6⟩
    · obtain ⟨_, _, _, _, _, h, _⟩ := h; cases h
    · obtain ⟨_, _, _, _, _, h, _⟩ := h; cases h
  | n + 1 => fun f x hf => by
    have ih := lv_ok D n
    obtain ⟨fe, st, fa, fd, ps, h1, h2, h3, h4, h5, h6, h7⟩ := D.one f x hf
    have hio : ioOf T f = fe.io := by unfold ioOf; rw [h1]
    refine ⟨fa, fd, ps, ?_, h4, h3.kp, h5, h6⟩
    rw [hio]
    cases fe with
    | hand io g => exact h7 n ih
    | code fi =>
      obtain ⟨rfl, hc⟩ := h7
      unfold chkD at hc
      rw [Bool.and_eq_true] at hc
      have hrun : ∀ ds, run T (n + 1) f ds = runD (run T n) (ioOf T) fi ds := fun ds => by
        show (T[f]?).bind _ = _
        rw [h1]; rfl
      refine fng_of h3 (scopeC_ok hc.1) (fun vs H Q E h => ?_) fun cdv A outer s H vs Q E hr hg h => ?_
      · obtain ⟨F, ds, r, outs, qs, e1, _, e2, _⟩ := h
        rw [hrun] at e1
        have e1 : (if fi.io.length = fi.ps.length ∧ fi.ps.length ≤ fi.N.length then _ else none) = some (r, outs) := e1
        split at e1
        · rename_i hlen
          have := e2.len
          exact this.trans hlen.1
        · cases e1
      · obtain ⟨F, ds, r, outs, qs, e1, e2, e3, e4, e5⟩ := h
        rw [hrun] at e1
        have sc := scopeC_ok hc.1
        refine ⟨WSs (cxOf CX0 P w K mg base fi.N x (defScope st) fa cdv A outer s H E).nox (defBody st), (pss_wss (defBody st)).nox, ?_⟩
        refine body_ok (X := (cxOf CX0 P w K mg base fi.N x (defScope st) fa cdv A outer s H E).nox) (k := n) ⟨⟨rfl, sc.nd, fun y kd hy _ => hy, fun y hy => ?_, fun _ _ => rfl, rfl, hr, hg, D.blt, ih, D.cst⟩, rfl, sc.kind, PassesOwn.never⟩ hc.2 e1 e2 e3 e4 e5
        exact absurd rfl (sc.nofree _ (PySem.mem_of_lookup hy))
end
end Mi

set_option maxHeartbeats 2000000
/-! D29: the end of a law. -/
namespace Mi
open PySem PySem.Spec PyProof.Rows L2
theorem law_callG {P : Program} {w : World} {K : PySem.W.Frag} {mg mb : Str → Option Value} {k : Nat} {fa a : Addr} {sp : Sp} {s₁ : Shared} {vs : List Value} {ns : List Int}
    (KX : K.In s₁.heap) (hns : s₁.heap.Ns mainGlobals mg) (hb : s₁.heap.Ns builtinsNs mb) (hbb : ∀ x : Str, x ≠ "__name__" → mb x = bootBuiltins x) (hlim : s₁.heap.NoLimit) (hg : s₁.gens = #[])
    (ha : s₁.heap.get? a = some { cls := .type "list", data := .seq vs.toArray }) (hi : IntsAre vs ns) (hl : ns.length ≤ sizeLine) (hr : Room k callerA)
    (F : ∀ base : Heap, K.In base → base.Ns mainGlobals mg → ∃ (fd : FuncData) (ps : List Str), FnG P w K mg base k fa fd ps sp ∧ Binds K fd ps [])
    (hsp : ∀ H : Hp, Only H → SqL K H a (ns.map V.int) → sp [.ref a] H (fun v _ => v = .bl true) fun _ _ _ => False) :
    codeAny (model P w) callerA (.call (.ref fa) ⟨[.ref a], []⟩) (fun r s' => r = .ok (.ret (.bool true)) ∧ OldK s₁.heap s'.heap ∧ s'.os = s₁.os ∧ AllBare s'.gens) s₁ := by
  have rv := vals_ints hi
  have lenV := hi.length
  -- from an abstract heap in which nothing but the script may be tracked
  have core : ∀ H : Hp, Only H → SqL K H a (ns.map V.int) → HOk P w H s₁.heap → (∀ b, H b ≠ none → b = a) → (H a ≠ none → K.lookup a = none) →
      codeAny (model P w) callerA (.call (.ref fa) ⟨[.ref a], []⟩) (fun r s' => r = .ok (.ret (.bool true)) ∧ OldK s₁.heap s'.heap ∧ s'.os = s₁.os ∧ AllBare s'.gens) s₁ := by
    intro H hO hS hok hA hK
    have base_of : ∀ {b : Addr} {o : Obj}, s₁.heap.get? b = some o → H b = none → (hidT s₁.heap H).get? b = some o := fun e n => hidT_get e n
    have noA : ∀ {b : Addr} {o : Obj} {es : Array DictEntry} {ep : Nat}, s₁.heap.get? b = some o → o.data = .dict es ep → H b = none := fun {b o es ep} e d => by
      cases q : H b with
      | none => rfl
      | some u =>
        have e' : b = a := hA b (by rw [q]; simp)
        subst e'
        rw [ha] at e; cases e
        have d' : Data.seq vs.toArray _ = Data.dict es ep := d
        cases d'
    have nsK : ∀ {b : Addr} {m : Str → Option Value}, s₁.heap.Ns b m → (hidT s₁.heap H).Ns b m := fun {b m} ⟨o, es, ep, e, d, r⟩ => ⟨o, es, ep, base_of e (noA e d), d, r⟩
    have hKb : K.In (hidT s₁.heap H) := fun b o e => base_of (KX b o e) (by
      cases q : H b with
      | none => rfl
      | some u =>
        have e' : b = a := hA b (by rw [q]; simp)
        subst e'
        rw [hK (by rw [q]; simp)] at e; cases e)
    have hM : Mod K mg (hidT s₁.heap H) := ⟨hKb, nsK hns, ⟨mb, nsK hb, hbb⟩, let ⟨mc, h1, h2⟩ := hlim; ⟨mc, nsK h1, h2⟩⟩
    have e0 : Env0 P w K mg (hidT s₁.heap H) callerA [] s₁ H := ⟨rfl, hM, fun b o e => of_hidT e, Nat.le_of_eq (hidT_size _ _), trivial, fun b hb => absurd (show b ∈ ([] : List Addr) from hb) (by simp), hok, .of_eq hg⟩
    obtain ⟨fd, ps, FG, hbind⟩ := F _ hKb (nsK hns)
    have hl1 := FG.len _ _ _ _ (hsp H hO hS)
    have hb1 : BindsTo s₁ fd ⟨[.ref a], []⟩ (ps.zip [.ref a]) := by
      have := hbind s₁ [.ref a] KX (by rw [List.append_nil]; exact hl1)
      rw [List.append_nil] at this
      exact this
    refine codeAny_mono (FG.run callerA [] s₁ H ⟨[.ref a], []⟩ [.ref a] [.ref a] _ _ hr rfl e0 hb1 (.cons rfl .nil) (hsp H hO hS)) fun r s' h => ?_
    cases r with
    | error e => exact False.elim h
    | ok fl =>
      cases fl with
      | next => exact False.elim h
      | brk => exact False.elim h
      | cont => exact False.elim h
      | ret u =>
        obtain ⟨v, H', os, bare, un, hok', r', q⟩ := h
        have q' : v = .bl true := q
        subst q'
        obtain rfl : u = Value.bool true := r'
        refine ⟨rfl, OldK.of_keep fun b o e => ?_, os, bare⟩
        cases q : H b with
        | none => exact un.keep b o e q (by intro z; exact absurd (show b ∈ ([] : List Addr) from z) (by simp)) (by simp)
        | some u =>
          rcases hO b with z | ⟨ob, xs, z⟩
          · rw [q] at z; cases z
          · have z2 := un.frzs b ob _ z
            obtain ⟨e1, _⟩ := hok b _ z
            obtain ⟨e2, _⟩ := hok' b _ z2
            rw [e] at e1; cases e1
            exact e2
  cases hk : K.lookup a with
  | some o =>
    -- the script is one of the module's own objects
    have e := KX a o hk
    rw [ha] at e
    cases e
    refine core (fun _ => none) (fun _ => .inl rfl) (.inr ⟨_, vs.toArray, _, hk, rfl, rfl, rfl, by rw [List.size_toArray, lenV]; exact hl, by simpa using rv⟩) (fun b u z => by have z' : (none : Option HO) = some u := z; cases z') (fun b z => absurd rfl z) fun z => absurd rfl z
  | none =>
    refine core (fun b => if b = a then some (.frz { cls := .type "list", data := .seq vs.toArray } (.lst (ns.map V.int))) else none) (fun b => ?_) (.inl (.inr ⟨{ cls := .type "list", data := .seq vs.toArray }, if_pos rfl⟩)) (fun b u z => ?_) (fun b z => ?_) fun _ => hk
    · by_cases hb : b = a
      · exact .inr ⟨_, _, if_pos hb⟩
      · exact .inl (if_neg hb)
    · by_cases hb : b = a
      · have z' := (if_pos hb).symm.trans z
        cases z'
        subst hb
        exact ⟨ha, by rw [List.length_map]; exact hl, vs, _, rv, ha⟩
      · have z' := (if_neg hb).symm.trans z
        cases z'
    · by_cases hb : b = a
      · exact hb
      · exact absurd (if_neg hb) z

theorem ioOf_code {T : List FE} {i : Nat} {fe : FE} (h : T[i]? = some fe) : ioOf T i = fe.io := by unfold ioOf; rw [h]
/-- THE END: the table of the defs, and the plain law of the small language -/
theorem law_end {l : PySem.W.OpenLaw} {n k i : Nat} {q : Program} {loose : List Str} {XP : (Str → Option Value) → Heap → Prop} {YP : World → Heap → Prop} {d : DefRec} {K : Params → PySem.W.Frag} {G : GT} {T : List FE} {sts : List Stmt}
    (hn : l.most = some n) (hn2 : n ≤ sizeLine) (hdf : d.params.defaults = []) (hr : Room k callerA)
    (hY : ∀ (w : World) (h : Heap), YP w h → (K w.params).In h) (hx : G.fnm[i]? = some d.name) (hio : ioOf T i = [.sc])
    (D : ∀ (w : World) (mg : Str → Option Value) (h : Heap), (K w.params).In h → h.Ns mainGlobals mg → ∀ base : Heap, (K w.params).In base → base.Ns mainGlobals mg → TabD l.prog w (K w.params) mg base G T sts)
    (law : ∀ ns : List Int, ns.length ≤ n → ∃ fr, run T k i [.list (ns.map .int)] = some ((.bool true, fr), [])) :
    PySem.W.WalkO q loose XP YP l.row.toRowW d [] (fun f vs => PySem.call f vs) := by
  refine Att.attach_call hn hdf fun w s₀ s₁ mg mb fa o pm cd doc a vs ns G' Y ho hd hcd hmg hobj hints hlen hg => ?_
  have KX := hY w _ Y
  have lv := fun base kb gb => lv_ok (D w mg _ KX G'.T.g base kb gb) k i d.name hx
  refine law_callG KX G'.T.g G'.T.b G'.T.builtins G'.T.nolimit hg hobj hints (Nat.le_trans hlen hn2) hr (sp := spFn (K w.params) (run T k) (ioOf T i) i) (fun base kb gb => ?_) fun H hO hS => ?_
  · obtain ⟨fa0, fd, ps, F0, e0, k0, b0, _⟩ := lv base kb gb
    rw [hmg] at e0
    cases e0
    exact ⟨fd, ps, F0, b0⟩
  · obtain ⟨fr, hrun⟩ := law ns hlen
    rw [hio]
    refine ⟨H, [.list (ns.map .int)], (.bool true, fr), [], [], hrun, Same.refl H, .sc hS RvAll.ints .nil, List.nodup_nil, fun v F' H' _ _ _ _ _ res => ?_⟩
    cases fr with
    | false => cases (show Rv _ _ v (.bool true) from res); rfl
    | true => cases (show Rv _ _ v (.bool true) from res); rfl
end Mi

set_option maxHeartbeats 2000000
/-! D30: the table of the defs from what the module has written. -/
namespace Mi
open PySem PySem.Spec PyProof.Rows L2
abbrev HF := Fns → (Nat → List Pk) → List PyData → Option ((PyData × Bool) × List (List PyData))
section
variable {K : PySem.W.Frag} {G : GT} {T : List FE} {sts : List Stmt}
theorem fun_bindsK {x qual : Str} {st : Stmt} {f : Addr} {fd : FuncData} {ps ks : List Str} {kw : List Nat} (F : Fun K x qual st f fd)
    (h : ∀ (kV doc pm : Value) (an : Option Addr) (cdv ct : Value) (us ws : List Value), ws.length = ks.length → us.length + ws.length = ps.length → bindArgs (PySem.W.fnOf x qual (defArgs st) (defBody st) (defScope st) .none kV doc pm an cdv ct) ⟨us, ks.zip ws⟩ = pure (ps.zip (permL kw (us ++ ws)))) : BindsK K fd ps ks kw := by
  obtain ⟨oc, od, kV, doc, pm, an, cdv, ct, osl, rfl, lk, hcd⟩ := F.ex
  exact fun s us ws _ h1 h2 => .of_eq (h kV doc pm an cdv ct us ws h1 h2)
/-- how its arguments bind -/
def BindF (x : Str) (st : Stmt) (ps : List Str) : Prop := ∀ (kV doc pm : Value) (an : Option Addr) (cdv ct : Value) (us : List Value), us.length = ps.length → bindArgs (PySem.W.fnOf x x (defArgs st) (defBody st) (defScope st) .none kV doc pm an cdv ct) ⟨us, []⟩ = pure (ps.zip us)
def BindFK (x : Str) (st : Stmt) (ps ks : List Str) (kw : List Nat) : Prop := ∀ (kV doc pm : Value) (an : Option Addr) (cdv ct : Value) (us ws : List Value), ws.length = ks.length → us.length + ws.length = ps.length →
  bindArgs (PySem.W.fnOf x x (defArgs st) (defBody st) (defScope st) .none kV doc pm an cdv ct) ⟨us, ks.zip ws⟩ = pure (ps.zip (permL kw (us ++ ws)))
/-- the def x of the text stands in the module -/
def DefAt (K : PySem.W.Frag) (x : Str) (st : Stmt) : Prop := ∃ fa fd, Fun K x x st fa fd ∧ PySem.W.nsIn K mainGlobals x = some (some (.ref fa))
theorem def_mk {x : Str} {st : Stmt} {f : Addr} {oc : Value} {od an : Option Addr} {osl : Array (Option Value)} {kV doc pm cdv ct : Value} (a : PySem.W.nsIn K mainGlobals x = some (some (.ref f)))
    (l : K.lookup f = some ⟨oc, od, .func (PySem.W.fnOf x x (defArgs st) (defBody st) (defScope st) .none kV doc pm an cdv ct), osl⟩) (c : PySem.W.codeIn K cdv x = true) (k : PySem.W.keepIn K (.ref f) = true) : DefAt K x st := ⟨f, _, fun_mk l c k, a⟩
/-- what is asked of a def that is told by hand -/
def HandOk (G : GT) (T : List FE) (x : Str) (st : Stmt) (ps : List Str) (f : Nat) (io : List Pk) : Prop :=
  ∀ (P : Program) (w : World) (K : PySem.W.Frag) (mg : Str → Option Value) (base : Heap) (fa : Addr) (fd : FuncData), Fun K x x st fa fd → (∀ x ∈ bltNames, mg x = none) → (∀ p ∈ G.cst, ∃ v u, mg p.1 = some u ∧ RelV v u ∧ Sc v p.2) →
    ∀ n, Lv P w K mg base G T n → FnG P w K mg base (n + 1) fa fd ps (spFn K (run T (n + 1)) io f)
/-- one def: all that is known without the heap -/
structure DefOk (G : GT) (T : List FE) (sts : List Stmt) (f : Nat) (x : Str) (st : Stmt) (ps : List Str) : Prop where
  at_ : sts[f]? = some st
  bd : BindF x st ps
  bk : ∀ p ∈ G.kws, p.1 = f → BindFK x st ps p.2.1 p.2.2
  fe : ∃ fe, T[f]? = some fe ∧ match fe with
    | .code fi => fi.ps = ps ∧ chkD G fi st = true
    | .hand io _ => HandOk G T x st ps f io
theorem bk_none {G : GT} {f : Nat} {x : Str} {st : Stmt} {ps : List Str} (h : (G.kws.all fun p => p.1 != f) = true) : ∀ p ∈ G.kws, p.1 = f → BindFK x st ps p.2.1 p.2.2 := fun p hp e => by
  have := List.all_eq_true.mp h p hp
  simp [e] at this
theorem bk_nil {f : Nat} {x : Str} {st : Stmt} {ps : List Str} : ∀ p ∈ ([] : List (Nat × List Str × List Nat)), p.1 = f → BindFK x st ps p.2.1 p.2.2 := fun p hp => nomatch hp
theorem bk_cons {f : Nat} {x : Str} {st : Stmt} {ps : List Str} {q : Nat × List Str × List Nat} {l : List (Nat × List Str × List Nat)} (h : q.1 = f → BindFK x st ps q.2.1 q.2.2) (r : ∀ p ∈ l, p.1 = f → BindFK x st ps p.2.1 p.2.2) : ∀ p ∈ q :: l, p.1 = f → BindFK x st ps p.2.1 p.2.2 := fun p hp e => by
  rcases List.mem_cons.mp hp with z | z
  · subst z; exact h e
  · exact r p z e
def AllDef (K : PySem.W.Frag) (G : GT) (T : List FE) (sts : List Stmt) : List Str → Nat → Prop
  | [], _ => True
  | x :: r, i => (∃ st ps, DefAt K x st ∧ DefOk G T sts i x st ps) ∧ AllDef K G T sts r (i + 1)
theorem AllDef.get : ∀ {l : List Str} {i f : Nat} {x : Str}, AllDef K G T sts l i → l[f]? = some x → ∃ st ps, DefAt K x st ∧ DefOk G T sts (i + f) x st ps
  | [], _, _, _, _, e => by simp at e
  | _ :: _, _, 0, _, h, e => by simp at e; subst e; exact h.1
  | _ :: _, i, f + 1, x, h, e => by
    have := AllDef.get (f := f) (x := x) h.2 (by simpa using e)
    rwa [Nat.add_right_comm, Nat.add_assoc] at this
def AllNone (K : PySem.W.Frag) : List Str → Prop
  | [] => True
  | x :: r => PySem.W.nsIn K mainGlobals x = some none ∧ AllNone K r
theorem AllNone.get : ∀ {l : List Str}, AllNone K l → ∀ x ∈ l, PySem.W.nsIn K mainGlobals x = some none
  | [], _, _, h => nomatch h
  | y :: r, h, x, hx => by
    rcases List.mem_cons.mp hx with z | z
    · subst z; exact h.1
    · exact AllNone.get h.2 x z
def AllCst (K : PySem.W.Frag) : List (Str × PyData) → Prop
  | [] => True
  | p :: r => (∃ u, PySem.W.nsIn K mainGlobals p.1 = some (some u) ∧ ∃ v, RelV v u ∧ Sc v p.2) ∧ AllCst K r
theorem AllCst.get : ∀ {l : List (Str × PyData)}, AllCst K l → ∀ p ∈ l, ∃ u, PySem.W.nsIn K mainGlobals p.1 = some (some u) ∧ ∃ v, RelV v u ∧ Sc v p.2
  | [], _, _, h => nomatch h
  | y :: r, h, x, hx => by
    rcases List.mem_cons.mp hx with z | z
    · subst z; exact h.1
    · exact AllCst.get h.2 x z
theorem cst_int {x : Str} {i : Int} {t : Tok} (h : PySem.W.nsIn K mainGlobals x = some (some (.int i t))) : ∃ u, PySem.W.nsIn K mainGlobals x = some (some u) ∧ ∃ v, RelV v u ∧ Sc v (.int i) := ⟨_, h, .int i, ⟨t, rfl⟩, .int i⟩
theorem cst_str {x z : Str} {t : Tok} (hz : z.length ≤ lim) (h : PySem.W.nsIn K mainGlobals x = some (some (.str z t))) : ∃ u, PySem.W.nsIn K mainGlobals x = some (some u) ∧ ∃ v, RelV v u ∧ Sc v (.str z) := ⟨_, h, .str z, ⟨t, rfl⟩, .str z hz⟩
theorem tab_of {P : Program} {w : World} {mg : Str → Option Value} {h base : Heap} (KX : K.In h) (GX : h.Ns mainGlobals mg) (hd : AllDef K G T sts G.fnm 0) (hb : AllNone K bltNames) (hc : AllCst K G.cst) : TabD P w K mg base G T sts := by
  have b : ∀ x ∈ bltNames, mg x = none := fun x hx => PySem.W.mg_none_of KX GX (hb.get x hx)
  have c : ∀ p ∈ G.cst, ∃ v u, mg p.1 = some u ∧ RelV v u ∧ Sc v p.2 := fun p hp => by
    obtain ⟨u, e, v, r, s⟩ := hc.get p hp
    exact ⟨v, u, PySem.W.mg_of KX GX e, r, s⟩
  refine ⟨fun f x hf => ?_, b, c⟩
  obtain ⟨st, ps, ⟨fa, fd, F, e⟩, O⟩ := hd.get hf
  rw [Nat.zero_add] at O
  obtain ⟨fe, h1, h2⟩ := O.fe
  refine ⟨fe, st, fa, fd, ps, h1, O.at_, F, PySem.W.mg_of KX GX e, F.binds O.bd, fun p hp e => fun_bindsK F (O.bk p hp e), ?_⟩
  cases fe with
  | code fi => exact h2
  | hand io g =>
    intro n L
    exact h2 P w K mg base fa fd F b c n L
end
end Mi

set_option maxHeartbeats 0
/-! The defs of the law actworks_k10_any_value_as_tree in the small language; printed by gen.py. -/
namespace K10
open PySem Mi

abbrev pw : Program := PySem.Challenge.pw_actworks_k10_any_value_as_tree
def st (i : Nat) : Stmt := pw.main.body.getD i (.Pass ⟨0, 0, 0, 0⟩)

def f0 : FI where
  name := "is_integer"
  ps := ["value"]
  N := ["value"]
  io := [.v]
  body := (.cons (.ret (.and_ (.isi (.var 0) "int") (.not_ (.isi (.var 0) "bool"))))
    .nil)

def f1 : FI where
  name := "is_within"
  ps := ["value", "least", "most"]
  N := ["value", "least", "most"]
  io := [.v, .v, .v]
  body := (.cons (.ret (.and_ (.call 0 (.cons (.var 0) .nil) .nil []) (.chn .LtE .LtE (.var 1) (.var 0) (.var 2))))
    .nil)

def f2 : FI where
  name := "is_tuple"
  ps := ["value", "many"]
  N := ["value", "many"]
  io := [.v, .v]
  body := (.cons (.ret (.and_ (.isi (.var 0) "tuple") (.cmp .Eq (.blt .len (.cons (.var 0) .nil)) (.var 1))))
    .nil)

def f3 : FI where
  name := "is_name_any"
  ps := ["value"]
  N := ["value", "sign"]
  io := [.v]
  body := (.cons (.ifs (.or_ (.not_ (.isi (.var 0) "str")) (.or_ (.not_ (.chn .LtE .LtE (.cst (.int 1)) (.blt .len (.cons (.var 0) .nil)) (.glo "MOST_NAME" (.int 8)))) (.cmp .NotIn (.idx (.var 0) (.cst (.int 0))) (.glo "LETTERS" (.str "abcdefghijklmnopqrstuvwxyz"))))) (.cons (.ret (.cst (.bool false)))
    .nil) .nil)
    (.cons (.ret (.blt .all (.cons (.comp [1] (.nm 1) (.seq (.var 0)) .no (.cmp .In (.var 1) (.glo "SIGNS" (.str "abcdefghijklmnopqrstuvwxyz0123456789")))) .nil)))
    .nil))

def f4 : FI where
  name := "is_label_any"
  ps := ["value"]
  N := ["value", "sign"]
  io := [.v]
  body := (.cons (.ret (.and_ (.isi (.var 0) "str") (.and_ (.chn .LtE .LtE (.cst (.int 1)) (.blt .len (.cons (.var 0) .nil)) (.glo "MOST_LABEL" (.int 4))) (.blt .all (.cons (.comp [1] (.nm 1) (.seq (.var 0)) .no (.cmp .In (.var 1) (.glo "SIGNS" (.str "abcdefghijklmnopqrstuvwxyz0123456789")))) .nil)))))
    .nil)

def f5 : FI where
  name := "are_words_any"
  ps := ["value"]
  N := ["value", "one", "sign"]
  io := [.v]
  body := (.cons (.ifs (.or_ (.not_ (.isi (.var 0) "str")) (.cmp .Gt (.blt .len (.cons (.var 0) .nil)) (.glo "MOST_WORDS" (.int 120)))) (.cons (.ret (.cst (.bool false)))
    .nil) .nil)
    (.cons (.ret (.or_ (.cmp .Eq (.var 0) (.cst (.str ""))) (.blt .all (.cons (.comp [1] (.nm 1) (.seq (.met .split (.var 0) (.cons (.cst (.str " ")) .nil))) .no (.and_ (.cmp .NotEq (.var 1) (.cst (.str ""))) (.blt .all (.cons (.comp [2] (.nm 2) (.seq (.var 1)) .no (.cmp .In (.var 2) (.glo "SIGNS" (.str "abcdefghijklmnopqrstuvwxyz0123456789")))) .nil)))) .nil))))
    .nil))

def f6 : FI where
  name := "is_tree_row"
  ps := ["value"]
  N := ["value"]
  io := [.v]
  body := (.cons (.ifs (.or_ (.not_ (.call 2 (.cons (.var 0) (.cons (.cst (.int 4)) .nil)) .nil [])) (.or_ (.not_ (.call 3 (.cons (.idx (.var 0) (.cst (.int 0))) .nil) .nil [])) (.not_ (.call 1 (.cons (.idx (.var 0) (.cst (.int 1))) (.cons (.cst (.int 0)) (.cons (.glo "MOST_DEPTH" (.int 6)) .nil))) .nil [])))) (.cons (.ret (.cst (.bool false)))
    .nil) .nil)
    (.cons (.ret (.and_ (.call 4 (.cons (.idx (.var 0) (.cst (.int 2))) .nil) .nil []) (.call 5 (.cons (.idx (.var 0) (.cst (.int 3))) .nil) .nil [])))
    .nil))

def f7 : FI where
  name := "are_depths"
  ps := ["tree"]
  N := ["tree", "near", "far"]
  io := [.v]
  body := (.cons (.ifs (.cmp .NotEq (.idx (.idx (.var 0) (.cst (.int 0))) (.cst (.int 1))) (.cst (.int 0))) (.cons (.ret (.cst (.bool false)))
    .nil) .nil)
    (.cons (.ret (.blt .all (.cons (.comp [1, 2] (.tp [1, 2]) (.zip (.var 0) (.slc (.var 0) (.so (.cst (.int 1))) .no)) .no (.chn .LtE .LtE (.cst (.int 1)) (.idx (.var 2) (.cst (.int 1))) (.bin .Add (.idx (.var 1) (.cst (.int 1))) (.cst (.int 1))))) .nil)))
    .nil))

def f8 : FI where
  name := "is_tree_any"
  ps := ["value"]
  N := ["value", "labels", "parent", "row"]
  io := [.v]
  body := (.cons (.ifs (.or_ (.not_ (.isi (.var 0) "tuple")) (.or_ (.not_ (.chn .LtE .LtE (.cst (.int 1)) (.blt .len (.cons (.var 0) .nil)) (.glo "MOST_ROWS" (.int 200)))) (.not_ (.blt .all (.cons (.comp [3] (.nm 3) (.seq (.var 0)) .no (.call 6 (.cons (.var 3) .nil) .nil [])) .nil))))) (.cons (.ret (.cst (.bool false)))
    .nil) .nil)
    (.cons (.ifs (.or_ (.cmp .NotEq (.lset (.comp [3] (.nm 3) (.seq (.var 0)) .no (.idx (.var 3) (.cst (.int 0))))) (.blt .len (.cons (.var 0) .nil))) (.not_ (.call 7 (.cons (.var 0) .nil) .nil []))) (.cons (.ret (.cst (.bool false)))
    .nil) .nil)
    (.cons (.asg 1 .dct0)
    (.cons (.for_ (.tp [2, 3]) (.zip (.call 9 (.cons (.var 0) .nil) .nil []) (.var 0)) (.cons (.ifs (.cmp .In (.tup (.cons (.var 2) (.cons (.idx (.var 3) (.cst (.int 2))) .nil))) (.var 1)) (.cons (.ret (.cst (.bool false)))
    .nil) .nil)
    (.cons (.put 1 (.tup (.cons (.var 2) (.cons (.idx (.var 3) (.cst (.int 2))) .nil))) (.cst (.bool true)))
    .nil)))
    (.cons (.ret (.cst (.bool true)))
    .nil)))))

def f9 : FI where
  name := "parents_of"
  ps := ["tree"]
  N := ["tree", "line", "found", "name", "depth", "label", "words"]
  io := [.v]
  body := (.cons (.asgs [1, 2] (.cons (.lst .nil) (.cons (.lst .nil) .nil)))
    (.cons (.for_ (.tp [3, 4, 5, 6]) (.seq (.var 0)) (.cons (.asg 1 (.slc (.var 1) .no (.so (.var 4))))
    (.cons (.app 2 (.ife (.cmp .NotEq (.var 1) (.lst .nil)) (.idx (.var 1) (.neg (.cst (.int 1)))) (.cst .none)))
    (.cons (.app 1 (.var 3))
    .nil))))
    (.cons (.ret (.var 2))
    .nil)))

def f10 : FI where
  name := "is_tree"
  ps := ["value"]
  N := ["value"]
  io := [.v]
  body := (.cons (.ret (.call 8 (.cons (.var 0) .nil) .nil []))
    .nil)

def f11 : FI where
  name := "first_twice"
  ps := ["values"]
  N := ["values", "known", "at", "value"]
  io := [.v]
  body := (.cons (.asg 1 .dct0)
    (.cons (.for_ (.tp [2, 3]) (.enu (.var 0)) (.cons (.ifs (.cmp .In (.var 3) (.var 1)) (.cons (.ret (.var 2))
    .nil) .nil)
    (.cons (.put 1 (.var 3) (.cst (.bool true)))
    .nil)))
    (.cons (.ret (.cst .none))
    .nil)))

def f12 : FI where
  name := "depth_flaw"
  ps := ["tree"]
  N := ["tree", "at", "row"]
  io := [.v]
  body := (.cons (.for_ (.tp [1, 2]) (.enu (.var 0)) (.cons (.ifs (.ife (.cmp .Eq (.var 1) (.cst (.int 0))) (.cmp .NotEq (.idx (.var 2) (.cst (.int 1))) (.cst (.int 0))) (.not_ (.chn .LtE .LtE (.cst (.int 1)) (.idx (.var 2) (.cst (.int 1))) (.bin .Add (.idx (.idx (.var 0) (.bin .Sub (.var 1) (.cst (.int 1)))) (.cst (.int 1))) (.cst (.int 1)))))) (.cons (.ret (.var 1))
    .nil) .nil)
    .nil))
    (.cons (.ret (.cst .none))
    .nil))

def f13 : FI where
  name := "flaw_of_tree"
  ps := ["value"]
  N := ["value", "looks", "at", "row", "word"]
  io := [.v]
  body := (.cons (.ifs (.or_ (.not_ (.isi (.var 0) "tuple")) (.not_ (.chn .LtE .LtE (.cst (.int 1)) (.blt .len (.cons (.var 0) .nil)) (.glo "MOST_ROWS" (.int 200))))) (.cons (.ret (.tup (.cons (.cst (.str "form")) .nil)))
    .nil) .nil)
    (.cons (.for_ (.tp [2, 3]) (.enu (.var 0)) (.cons (.ifs (.not_ (.call 6 (.cons (.var 3) .nil) .nil [])) (.cons (.ret (.tup (.cons (.cst (.str "row")) (.cons (.var 2) .nil))))
    .nil) .nil)
    .nil))
    (.cons (.asg 1 (.lst (.cons (.tup (.cons (.cst (.str "name")) (.cons (.call 11 (.cons (.comp [3] (.nm 3) (.seq (.var 0)) .no (.idx (.var 3) (.cst (.int 0)))) .nil) .nil []) .nil))) (.cons (.tup (.cons (.cst (.str "depth")) (.cons (.call 12 (.cons (.var 0) .nil) .nil []) .nil))) .nil))))
    (.cons (.for_ (.tp [4, 2]) (.seq (.var 1)) (.cons (.ifs (.cmp .IsNot (.var 2) (.cst .none)) (.cons (.ret (.tup (.cons (.var 4) (.cons (.var 2) .nil))))
    .nil) .nil)
    .nil))
    (.cons (.asg 2 (.call 11 (.cons (.lzip (.call 9 (.cons (.var 0) .nil) .nil []) (.comp [3] (.nm 3) (.seq (.var 0)) .no (.idx (.var 3) (.cst (.int 2))))) .nil) .nil []))
    (.cons (.ret (.ife (.cmp .Is (.var 2) (.cst .none)) (.cst .none) (.tup (.cons (.cst (.str "label")) (.cons (.var 2) .nil)))))
    .nil))))))

def f14 : FI where
  name := "tree_flaw"
  ps := ["value"]
  N := ["value"]
  io := [.v]
  body := (.cons (.ret (.call 13 (.cons (.var 0) .nil) .nil []))
    .nil)

def f15 : FI where
  name := "_law_pot"
  ps := ["script", "k"]
  N := ["script", "k", "cell"]
  io := [.sc, .v]
  body := (.cons (.asg 2 (.ife (.cmp .Lt (.var 1) (.blt .len (.cons (.var 0) .nil))) (.blt .abs (.cons (.idx (.var 0) (.var 1)) .nil)) (.bin .Add (.bin .Mult (.cst (.int 2003)) (.var 1)) (.cst (.int 311)))))
    (.cons (.ret (.lst (.cons (.blt .max2 (.cons (.cst (.int 0)) (.cons (.bin .Sub (.var 2) (.bin .Pow (.cst (.int 10)) (.cst (.int 18)))) .nil))) (.cons (.bin .Add (.bin .Mod (.blt .int1 (.cons (.bin .Add (.bin .Add (.bin .Mult (.bin .Mod (.blt .int1 (.cons (.var 2) .nil)) (.cst (.int 2147483549))) (.cst (.int 40014))) (.bin .Mult (.cst (.int 6007)) (.var 1))) (.cst (.int 1231))) .nil)) (.cst (.int 2147483563))) (.cst (.int 1))) .nil))))
    .nil))

def f16 : FI where
  name := "_law_draw"
  ps := ["pot", "many"]
  N := ["pot", "many", "digit"]
  io := [.io, .v]
  body := (.cons (.ifs (.cmp .Gt (.idx (.var 0) (.cst (.int 0))) (.cst (.int 0))) (.cons (.asgT (.cons (.sb 0 (.cst (.int 0))) (.cons (.nm 2) .nil)) (.blt .divmod (.cons (.idx (.var 0) (.cst (.int 0))) (.cons (.var 1) .nil))))
    (.cons (.ret (.var 2))
    .nil)) .nil)
    (.cons (.put 0 (.cst (.int 1)) (.bin .Mod (.blt .int1 (.cons (.bin .Add (.bin .Mult (.idx (.var 0) (.cst (.int 1))) (.cst (.int 40692))) (.cst (.int 9601))) .nil)) (.cst (.int 2147483587))))
    (.cons (.ret (.bin .Mod (.blt .int1 (.cons (.bin .FloorDiv (.bin .Mod (.blt .int1 (.cons (.bin .Mult (.idx (.var 0) (.cst (.int 1))) (.idx (.var 0) (.cst (.int 1)))) .nil)) (.cst (.int 2147483549))) (.cst (.int 19))) .nil)) (.var 1)))
    .nil)))

def f17 : FI where
  name := "_law_pick"
  ps := ["pot", "some"]
  N := ["pot", "some"]
  io := [.io, .v]
  body := (.cons (.ret (.idx (.var 1) (.call 16 (.cons (.var 0) (.cons (.blt .len (.cons (.var 1) .nil)) .nil)) .nil [])))
    .nil)

def f18 : FI where
  name := "_law_words"
  ps := ["pot"]
  N := ["pot", "turn"]
  io := [.io]
  body := (.cons (.ret (.met .join (.cst (.str " ")) (.cons (.comp [1] (.nm 1) (.rng (.call 16 (.cons (.var 0) (.cons (.cst (.int 4)) .nil)) .nil [])) .no (.call 17 (.cons (.var 0) (.cons (.lst (.cons (.cst (.str "a")) (.cons (.cst (.str "dog")) (.cons (.cst (.str "cat")) (.cons (.cst (.str "x1")) (.cons (.cst (.str "2")) .nil)))))) .nil)) .nil [])) .nil)))
    .nil)

def f19 : FI where
  name := "_law_tree"
  ps := ["pot", "most"]
  N := ["pot", "most", "turn", "rows", "line", "many", "depth", "name"]
  io := [.io, .v]
  body := (.cons (.asgs [3, 4, 5] (.cons (.lst (.cons (.tup (.cons (.cst (.str "act")) (.cons (.cst (.int 0)) (.cons (.cst (.str "0")) (.cons (.call 18 (.cons (.var 0) .nil) .nil []) .nil))))) .nil)) (.cons (.lst (.cons (.cst (.str "act")) .nil)) (.cons .dct0 .nil))))
    (.cons (.for_ (.nm 2) (.rng (.call 16 (.cons (.var 0) (.cons (.bin .Add (.var 1) (.cst (.int 1))) .nil)) .nil [])) (.cons (.asg 6 (.bin .Add (.cst (.int 1)) (.call 16 (.cons (.var 0) (.cons (.blt .min2 (.cons (.blt .len (.cons (.var 4) .nil)) (.cons (.cst (.int 6)) .nil))) .nil)) .nil [])))
    (.cons (.asg 4 (.slc (.var 4) .no (.so (.var 6))))
    (.cons (.put 5 (.idx (.var 4) (.neg (.cst (.int 1)))) (.bin .Add (.met .get2 (.var 5) (.cons (.idx (.var 4) (.neg (.cst (.int 1)))) (.cons (.cst (.int 0)) .nil))) (.cst (.int 1))))
    (.cons (.asg 7 (.bin .Add (.call 17 (.cons (.var 0) (.cons (.lst (.cons (.cst (.str "n")) (.cons (.cst (.str "sec")) (.cons (.cst (.str "x0")) .nil)))) .nil)) .nil []) (.blt .str1 (.cons (.var 2) .nil))))
    (.cons (.app 3 (.tup (.cons (.var 7) (.cons (.var 6) (.cons (.bin .Add (.blt .str1 (.cons (.idx (.var 5) (.idx (.var 4) (.neg (.cst (.int 1))))) .nil)) (.call 17 (.cons (.var 0) (.cons (.lst (.cons (.cst (.str "")) (.cons (.cst (.str "a")) .nil))) .nil)) .nil [])) (.cons (.call 18 (.cons (.var 0) .nil) .nil []) .nil))))))
    (.cons (.app 4 (.var 7))
    .nil)))))))
    (.cons (.ret (.blt .tupleOf (.cons (.var 3) .nil)))
    .nil)))

def f20 : FI where
  name := "_law_is_plain"
  ps := ["value", "least", "most"]
  N := ["value", "least", "most", "sign"]
  io := [.v, .v, .v]
  body := (.cons (.ifs (.or_ (.not_ (.isi (.var 0) "str")) (.not_ (.chn .LtE .LtE (.var 1) (.blt .len (.cons (.var 0) .nil)) (.var 2)))) (.cons (.ret (.cst (.bool false)))
    .nil) .nil)
    (.cons (.ret (.blt .all (.cons (.comp [3] (.nm 3) (.seq (.var 0)) .no (.or_ (.chn .LtE .LtE (.cst (.str "a")) (.var 3) (.cst (.str "z"))) (.chn .LtE .LtE (.cst (.str "0")) (.var 3) (.cst (.str "9"))))) .nil)))
    .nil))

def f21 : FI where
  name := "_law_is_name"
  ps := ["value"]
  N := ["value"]
  io := [.v]
  body := (.cons (.ret (.and_ (.call 20 (.cons (.var 0) (.cons (.cst (.int 1)) (.cons (.cst (.int 8)) .nil))) .nil []) (.cmp .LtE (.cst (.str "a")) (.idx (.var 0) (.cst (.int 0))))))
    .nil)

def f22 : FI where
  name := "_law_are_words"
  ps := ["value"]
  N := ["value", "word"]
  io := [.v]
  body := (.cons (.ifs (.or_ (.not_ (.isi (.var 0) "str")) (.cmp .Gt (.blt .len (.cons (.var 0) .nil)) (.cst (.int 120)))) (.cons (.ret (.cst (.bool false)))
    .nil) .nil)
    (.cons (.ret (.or_ (.cmp .Eq (.var 0) (.cst (.str ""))) (.blt .all (.cons (.comp [1] (.nm 1) (.seq (.met .split (.var 0) (.cons (.cst (.str " ")) .nil))) .no (.call 20 (.cons (.var 1) (.cons (.cst (.int 1)) (.cons (.cst (.int 120)) .nil))) .nil [])) .nil))))
    .nil))

def f23 : FI where
  name := "_law_is_row"
  ps := ["value"]
  N := ["value"]
  io := [.v]
  body := (.cons (.ifs (.or_ (.not_ (.isi (.var 0) "tuple")) (.or_ (.cmp .NotEq (.blt .len (.cons (.var 0) .nil)) (.cst (.int 4))) (.not_ (.call 21 (.cons (.idx (.var 0) (.cst (.int 0))) .nil) .nil [])))) (.cons (.ret (.cst (.bool false)))
    .nil) .nil)
    (.cons (.ifs (.or_ (.not_ (.isi (.idx (.var 0) (.cst (.int 1))) "int")) (.or_ (.isi (.idx (.var 0) (.cst (.int 1))) "bool") (.not_ (.chn .LtE .Lt (.cst (.int 0)) (.idx (.var 0) (.cst (.int 1))) (.cst (.int 7)))))) (.cons (.ret (.cst (.bool false)))
    .nil) .nil)
    (.cons (.ret (.and_ (.call 20 (.cons (.idx (.var 0) (.cst (.int 2))) (.cons (.cst (.int 1)) (.cons (.cst (.int 4)) .nil))) .nil []) (.call 22 (.cons (.idx (.var 0) (.cst (.int 3))) .nil) .nil [])))
    .nil)))

def f25 : FI where
  name := "_law_bent"
  ps := ["pot", "value"]
  N := ["pot", "value", "some", "at", "way"]
  io := [.io, .v]
  body := (.cons (.ifs (.and_ (.isi (.var 1) "tuple") (.and_ (.cmp .Gt (.blt .len (.cons (.var 1) .nil)) (.cst (.int 0))) (.cmp .Gt (.call 16 (.cons (.var 0) (.cons (.cst (.int 9)) .nil)) .nil []) (.cst (.int 0))))) (.cons (.asgs [3, 4] (.cons (.call 16 (.cons (.var 0) (.cons (.blt .len (.cons (.var 1) .nil)) .nil)) .nil []) (.cons (.call 16 (.cons (.var 0) (.cons (.cst (.int 12)) .nil)) .nil []) .nil)))
    (.cons (.ifs (.cmp .Eq (.var 4) (.cst (.int 0))) (.cons (.ret (.bin .Add (.slc (.var 1) .no (.so (.var 3))) (.slc (.var 1) (.so (.bin .Add (.var 3) (.cst (.int 1)))) .no)))
    .nil) .nil)
    (.cons (.ifs (.cmp .Eq (.var 4) (.cst (.int 1))) (.cons (.ret (.bin .Add (.slc (.var 1) .no (.so (.bin .Add (.var 3) (.cst (.int 1))))) (.slc (.var 1) (.so (.var 3)) .no)))
    .nil) .nil)
    (.cons (.ifs (.cmp .Eq (.var 4) (.cst (.int 2))) (.cons (.ret (.blt .listOf (.cons (.var 1) .nil)))
    .nil) .nil)
    (.cons (.ifs (.cmp .Eq (.var 4) (.cst (.int 3))) (.cons (.ret (.bin .Add (.bin .Add (.slc (.var 1) .no (.so (.var 3))) (.rev (.slc (.var 1) (.so (.var 3)) (.so (.bin .Add (.var 3) (.cst (.int 2))))))) (.slc (.var 1) (.so (.bin .Add (.var 3) (.cst (.int 2)))) .no)))
    .nil) .nil)
    (.cons (.ret (.bin .Add (.bin .Add (.slc (.var 1) .no (.so (.var 3))) (.tup (.cons (.call 25 (.cons (.var 0) (.cons (.idx (.var 1) (.var 3)) .nil)) .nil []) .nil))) (.slc (.var 1) (.so (.bin .Add (.var 3) (.cst (.int 1)))) .no)))
    .nil)))))) .nil)
    (.cons (.ifs (.and_ (.isi (.var 1) "int") (.not_ (.isi (.var 1) "bool"))) (.cons (.ret (.call 17 (.cons (.var 0) (.cons (.lst (.cons (.bin .Add (.var 1) (.cst (.int 1))) (.cons (.bin .Sub (.var 1) (.cst (.int 1))) (.cons (.neg (.cst (.int 1))) (.cons (.cst (.int 7)) (.cons (.cst (.bool true)) (.cons (.cst .none) (.cons (.cst (.str "1")) (.cons (.bin .Pow (.cst (.int 10)) (.cst (.int 20))) (.cons (.cst (.int 0)) (.cons (.cst (.int 6)) .nil))))))))))) .nil)) .nil []))
    .nil) .nil)
    (.cons (.ifs (.isi (.var 1) "str") (.cons (.asg 2 (.lst (.cons (.bin .Add (.var 1) (.cst (.str "a"))) (.cons (.slc (.var 1) (.so (.cst (.int 1))) .no) (.cons (.cst (.str "")) (.cons (.cst (.str "act")) (.cons (.cst (.str "1")) (.cons (.cst (.str "1a")) (.cons (.cst (.str "A")) (.cons (.cst (.str "a b")) (.cons (.cst (.str "a  b")) (.cons (.cst (.str " a")) (.cons (.cst (.str "a ")) (.cons (.cst (.str "#")) (.cons (.cst (.str "abcdefgh")) (.cons (.cst (.str "abcdefghi")) (.cons (.cst (.str "abcd")) (.cons (.cst (.str "abcde")) .nil))))))))))))))))))
    (.cons (.ret (.call 17 (.cons (.var 0) (.cons (.bin .Add (.var 2) (.lst (.cons (.cst (.str "n0")) (.cons (.cst .none) (.cons (.cst (.int 0)) (.cons (.lst (.cons (.var 1) .nil)) (.cons (.cst (.str "1x")) .nil))))))) .nil)) .nil []))
    .nil)) .nil)
    (.cons (.ret (.call 17 (.cons (.var 0) (.cons (.lst (.cons (.cst .none) (.cons (.cst (.int 0)) (.cons (.tup .nil) (.cons (.lst .nil) (.cons (.cst (.str "a")) (.cons (.tup (.cons (.cst (.str "a")) (.cons (.cst (.int 0)) (.cons (.cst (.str "0")) (.cons (.cst (.str "")) .nil))))) (.cons .dct0 .nil)))))))) .nil)) .nil []))
    .nil))))

def f26 : FI where
  name := "_law_edges"
  ps := ["pot"]
  N := ["pot", "found", "many", "deep", "name", "label", "at"]
  io := [.v]
  body := (.cons (.asg 1 (.lst .nil))
    (.cons (.for_ (.nm 2) (.seq (.tup (.cons (.cst (.int 200)) (.cons (.cst (.int 201)) .nil)))) (.cons (.app 1 (.bin .Add (.tup (.cons (.tup (.cons (.cst (.str "act")) (.cons (.cst (.int 0)) (.cons (.cst (.str "0")) (.cons (.cst (.str "")) .nil))))) .nil)) (.blt .tupleOf (.cons (.comp [6] (.nm 6) (.rng (.bin .Sub (.var 2) (.cst (.int 1)))) .no (.tup (.cons (.bin .Add (.cst (.str "n")) (.blt .str1 (.cons (.var 6) .nil))) (.cons (.cst (.int 1)) (.cons (.blt .str1 (.cons (.var 6) .nil)) (.cons (.cst (.str "")) .nil)))))) .nil))))
    .nil))
    (.cons (.for_ (.nm 3) (.seq (.tup (.cons (.cst (.int 6)) (.cons (.cst (.int 7)) .nil)))) (.cons (.app 1 (.blt .tupleOf (.cons (.comp [6] (.nm 6) (.rng (.bin .Add (.var 3) (.cst (.int 1)))) .no (.tup (.cons (.bin .Add (.cst (.str "n")) (.blt .str1 (.cons (.var 6) .nil))) (.cons (.var 6) (.cons (.cst (.str "0")) (.cons (.cst (.str "")) .nil)))))) .nil)))
    .nil))
    (.cons (.for_ (.nm 2) (.seq (.tup (.cons (.cst (.int 120)) (.cons (.cst (.int 121)) .nil)))) (.cons (.app 1 (.tup (.cons (.tup (.cons (.cst (.str "act")) (.cons (.cst (.int 0)) (.cons (.cst (.str "0")) (.cons (.bin .Mult (.cst (.str "a")) (.var 2)) .nil))))) .nil)))
    (.cons (.app 1 (.tup (.cons (.tup (.cons (.cst (.str "act")) (.cons (.cst (.int 0)) (.cons (.cst (.str "0")) (.cons (.bin .Add (.slc (.bin .Mult (.cst (.str "ab ")) (.cst (.int 60))) .no (.so (.bin .Sub (.var 2) (.cst (.int 1))))) (.cst (.str "b"))) .nil))))) .nil)))
    .nil)))
    (.cons (.for_ (.nm 4) (.seq (.tup (.cons (.cst (.str "abcdefgh")) (.cons (.cst (.str "abcdefghi")) (.cons (.cst (.str "a1234567")) (.cons (.cst (.str "1a")) (.cons (.cst (.str "z")) (.cons (.cst (.str "aB")) (.cons (.cst (.str "")) .nil))))))))) (.cons (.app 1 (.tup (.cons (.tup (.cons (.var 4) (.cons (.cst (.int 0)) (.cons (.cst (.str "0")) (.cons (.cst (.str "")) .nil))))) .nil)))
    .nil))
    (.cons (.for_ (.nm 5) (.seq (.tup (.cons (.cst (.str "1234")) (.cons (.cst (.str "12345")) (.cons (.cst (.str "")) (.cons (.cst (.str "a")) (.cons (.cst (.str "0")) (.cons (.cst (.str "A")) (.cons (.cst (.str "1 ")) .nil))))))))) (.cons (.app 1 (.tup (.cons (.tup (.cons (.cst (.str "act")) (.cons (.cst (.int 0)) (.cons (.var 5) (.cons (.cst (.str "")) .nil))))) (.cons (.tup (.cons (.cst (.str "n")) (.cons (.cst (.int 1)) (.cons (.var 5) (.cons (.cst (.str "")) .nil))))) .nil))))
    .nil))
    (.cons (.app 1 (.tup (.cons (.tup (.cons (.cst (.str "act")) (.cons (.cst (.int 0)) (.cons (.cst (.str "0")) (.cons (.cst (.str "")) .nil))))) (.cons (.tup (.cons (.cst (.str "a")) (.cons (.cst (.int 1)) (.cons (.cst (.str "1")) (.cons (.cst (.str "")) .nil))))) (.cons (.tup (.cons (.cst (.str "b")) (.cons (.cst (.int 2)) (.cons (.cst (.str "1")) (.cons (.cst (.str "")) .nil))))) (.cons (.tup (.cons (.cst (.str "c")) (.cons (.cst (.int 1)) (.cons (.cst (.str "2")) (.cons (.cst (.str "")) .nil))))) (.cons (.tup (.cons (.cst (.str "d")) (.cons (.cst (.int 2)) (.cons (.cst (.str "1")) (.cons (.cst (.str "")) .nil))))) .nil)))))))
    (.cons (.app 1 (.tup (.cons (.tup (.cons (.cst (.str "act")) (.cons (.cst (.int 0)) (.cons (.cst (.str "0")) (.cons (.cst (.str "")) .nil))))) (.cons (.tup (.cons (.cst (.str "a")) (.cons (.cst (.int 1)) (.cons (.cst (.str "1")) (.cons (.cst (.str "")) .nil))))) (.cons (.tup (.cons (.cst (.str "b")) (.cons (.cst (.int 2)) (.cons (.cst (.str "1")) (.cons (.cst (.str "")) .nil))))) (.cons (.tup (.cons (.cst (.str "c")) (.cons (.cst (.int 1)) (.cons (.cst (.str "1")) (.cons (.cst (.str "")) .nil))))) (.cons (.tup (.cons (.cst (.str "d")) (.cons (.cst (.int 2)) (.cons (.cst (.str "1")) (.cons (.cst (.str "")) .nil))))) .nil)))))))
    (.cons (.app 1 (.tup (.cons (.tup (.cons (.cst (.str "act")) (.cons (.cst (.int 0)) (.cons (.cst (.str "0")) (.cons (.cst (.str "")) .nil))))) (.cons (.tup (.cons (.cst (.str "a")) (.cons (.cst (.int 1)) (.cons (.cst (.str "1")) (.cons (.cst (.str "")) .nil))))) (.cons (.tup (.cons (.cst (.str "b")) (.cons (.cst (.int 2)) (.cons (.cst (.str "1")) (.cons (.cst (.str "")) .nil))))) (.cons (.tup (.cons (.cst (.str "a")) (.cons (.cst (.int 1)) (.cons (.cst (.str "2")) (.cons (.cst (.str "")) .nil))))) .nil))))))
    (.cons (.ret (.var 1))
    .nil))))))))))

def f27 : FI where
  name := "_law_value_right"
  ps := ["value"]
  N := ["value", "due", "shown"]
  io := [.v]
  body := (.cons (.asgs [1, 2] (.cons (.call 24 (.cons (.var 0) .nil) .nil []) (.cons (.rpr (.var 0)) .nil)))
    (.cons (.ifs (.or_ (.cmp .NotEq (.rpr (.lst (.cons (.call 14 (.cons (.var 0) .nil) .nil []) (.cons (.call 14 .nil (.cons (.var 0) .nil) [0]) .nil)))) (.rpr (.lst (.cons (.var 1) (.cons (.var 1) .nil))))) (.cmp .NotEq (.rpr (.var 0)) (.var 2))) (.cons (.ret (.cst (.bool false)))
    .nil) .nil)
    (.cons (.ret (.cmp .Eq (.rpr (.lst (.cons (.call 10 (.cons (.var 0) .nil) .nil []) (.cons (.call 10 .nil (.cons (.var 0) .nil) [0]) .nil)))) (.rpr (.lst (.cons (.cmp .Is (.var 1) (.cst .none)) (.cons (.cmp .Is (.var 1) (.cst .none)) .nil))))))
    .nil)))

def f28 : FI where
  name := "_law_right"
  ps := ["pot"]
  N := ["pot", "tree", "values", "turn", "value"]
  io := [.io]
  body := (.cons (.asg 1 (.call 19 (.cons (.var 0) (.cons (.cst (.int 12)) .nil)) .nil []))
    (.cons (.asg 2 (.lst (.cons (.var 1) (.cons (.blt .listOf (.cons (.var 1) .nil)) (.cons (.tup .nil) (.cons (.cst .none) (.cons (.cst (.int 0)) (.cons (.cst (.str "tree")) (.cons .dct0 (.cons (.idx (.var 1) (.cst (.int 0))) (.cons (.tup (.cons (.var 1) .nil)) (.cons (.bin .Add (.var 1) (.slc (.var 1) .no (.so (.cst (.int 1))))) (.cons (.rev (.var 1)) (.cons (.slc (.var 1) (.so (.cst (.int 1))) .no) .nil))))))))))))))
    (.cons (.asg 2 (.bin .Add (.var 2) (.comp [3] (.nm 3) (.rng (.cst (.int 24))) .no (.call 25 (.cons (.var 0) (.cons (.var 1) .nil)) .nil []))))
    (.cons (.app 2 (.call 25 (.cons (.var 0) (.cons (.call 25 (.cons (.var 0) (.cons (.var 1) .nil)) .nil []) .nil)) .nil []))
    (.cons (.ret (.and_ (.cmp .Is (.call 10 (.cons (.var 1) .nil) .nil []) (.cst (.bool true))) (.blt .all (.cons (.comp [4] (.nm 4) (.seq (.var 2)) .no (.call 27 (.cons (.var 4) .nil) .nil [])) .nil))))
    .nil)))))

def f29 : FI where
  name := "law"
  ps := ["script"]
  N := ["script", "k", "value"]
  io := [.sc]
  body := (.cons (.for_ (.nm 1) (.rng (.blt .max2 (.cons (.cst (.int 1)) (.cons (.blt .min2 (.cons (.cst (.int 3)) (.cons (.blt .len (.cons (.var 0) .nil)) .nil))) .nil)))) (.cons (.ifs (.not_ (.callT 28 15 (.cons (.var 0) (.cons (.var 1) .nil)))) (.cons (.ret (.cst (.bool false)))
    .nil) .nil)
    .nil))
    (.cons (.ret (.blt .all (.cons (.comp [2] (.nm 2) (.seq (.call 26 (.cons (.call 15 (.cons (.var 0) (.cons (.cst (.int 3)) .nil)) .nil []) .nil) .nil [])) .no (.call 27 (.cons (.var 2) .nil) .nil [])) .nil)))
    .nil))

def names : List Str := ["is_integer", "is_within", "is_tuple", "is_name_any", "is_label_any", "are_words_any", "is_tree_row", "are_depths", "is_tree_any", "parents_of", "is_tree", "first_twice", "depth_flaw", "flaw_of_tree", "tree_flaw", "_law_pot", "_law_draw", "_law_pick", "_law_words", "_law_tree", "_law_is_plain", "_law_is_name", "_law_are_words", "_law_is_row", "_law_flaw", "_law_bent", "_law_edges", "_law_value_right", "_law_right", "law"]
def G : GT where
  fnm := names
  kws := [(10, ["value"], [0]), (14, ["value"], [0])]
  cst := [("LETTERS", (.str "abcdefghijklmnopqrstuvwxyz")), ("SIGNS", (.str "abcdefghijklmnopqrstuvwxyz0123456789")), ("MOST_NAME", (.int 8)), ("MOST_LABEL", (.int 4)), ("MOST_WORDS", (.int 120)), ("MOST_ROWS", (.int 200)), ("MOST_DEPTH", (.int 6))]

theorem c0 : chkD G f0 (st 1) = true := by decide +kernel
theorem c1 : chkD G f1 (st 2) = true := by decide +kernel
theorem c2 : chkD G f2 (st 3) = true := by decide +kernel
theorem c3 : chkD G f3 (st 10) = true := by decide +kernel
theorem c4 : chkD G f4 (st 11) = true := by decide +kernel
theorem c5 : chkD G f5 (st 12) = true := by decide +kernel
theorem c6 : chkD G f6 (st 16) = true := by decide +kernel
theorem c7 : chkD G f7 (st 17) = true := by decide +kernel
theorem c8 : chkD G f8 (st 18) = true := by decide +kernel
theorem c9 : chkD G f9 (st 19) = true := by decide +kernel
theorem c10 : chkD G f10 (st 20) = true := by decide +kernel
theorem c11 : chkD G f11 (st 22) = true := by decide +kernel
theorem c12 : chkD G f12 (st 23) = true := by decide +kernel
theorem c13 : chkD G f13 (st 24) = true := by decide +kernel
theorem c14 : chkD G f14 (st 25) = true := by decide +kernel
theorem c15 : chkD G f15 (st 27) = true := by decide +kernel
theorem c16 : chkD G f16 (st 28) = true := by decide +kernel
theorem c17 : chkD G f17 (st 29) = true := by decide +kernel
theorem c18 : chkD G f18 (st 30) = true := by decide +kernel
theorem c19 : chkD G f19 (st 31) = true := by decide +kernel
theorem c20 : chkD G f20 (st 32) = true := by decide +kernel
theorem c21 : chkD G f21 (st 33) = true := by decide +kernel
theorem c22 : chkD G f22 (st 34) = true := by decide +kernel
theorem c23 : chkD G f23 (st 35) = true := by decide +kernel
theorem c25 : chkD G f25 (st 37) = true := by decide +kernel
theorem c26 : chkD G f26 (st 38) = true := by decide +kernel
theorem c27 : chkD G f27 (st 39) = true := by decide +kernel
theorem c28 : chkD G f28 (st 40) = true := by decide +kernel
theorem c29 : chkD G f29 (st 41) = true := by decide +kernel
def sts : List Stmt := [st 1, st 2, st 3, st 10, st 11, st 12, st 16, st 17, st 18, st 19, st 20, st 22, st 23, st 24, st 25, st 27, st 28, st 29, st 30, st 31, st 32, st 33, st 34, st 35, st 36, st 37, st 38, st 39, st 40, st 41]
-- told by hand: 24
def T (h24 : HF) : List FE := [.code f0, .code f1, .code f2, .code f3, .code f4, .code f5, .code f6, .code f7, .code f8, .code f9, .code f10, .code f11, .code f12, .code f13, .code f14, .code f15, .code f16, .code f17, .code f18, .code f19, .code f20, .code f21, .code f22, .code f23, .hand [.v] h24, .code f25, .code f26, .code f27, .code f28, .code f29]
theorem o0 {h24 : HF} : DefOk G (T h24) sts 0 "is_integer" (st 1) ["value"] := ⟨rfl, fun _ _ _ _ _ _ us hl => match us, hl with | [_], _ => rfl, bk_none rfl, _, rfl, rfl, c0⟩
theorem o1 {h24 : HF} : DefOk G (T h24) sts 1 "is_within" (st 2) ["value", "least", "most"] := ⟨rfl, fun _ _ _ _ _ _ us hl => match us, hl with | [_, _, _], _ => rfl, bk_none rfl, _, rfl, rfl, c1⟩
theorem o2 {h24 : HF} : DefOk G (T h24) sts 2 "is_tuple" (st 3) ["value", "many"] := ⟨rfl, fun _ _ _ _ _ _ us hl => match us, hl with | [_, _], _ => rfl, bk_none rfl, _, rfl, rfl, c2⟩
theorem o3 {h24 : HF} : DefOk G (T h24) sts 3 "is_name_any" (st 10) ["value"] := ⟨rfl, fun _ _ _ _ _ _ us hl => match us, hl with | [_], _ => rfl, bk_none rfl, _, rfl, rfl, c3⟩
theorem o4 {h24 : HF} : DefOk G (T h24) sts 4 "is_label_any" (st 11) ["value"] := ⟨rfl, fun _ _ _ _ _ _ us hl => match us, hl with | [_], _ => rfl, bk_none rfl, _, rfl, rfl, c4⟩
theorem o5 {h24 : HF} : DefOk G (T h24) sts 5 "are_words_any" (st 12) ["value"] := ⟨rfl, fun _ _ _ _ _ _ us hl => match us, hl with | [_], _ => rfl, bk_none rfl, _, rfl, rfl, c5⟩
theorem o6 {h24 : HF} : DefOk G (T h24) sts 6 "is_tree_row" (st 16) ["value"] := ⟨rfl, fun _ _ _ _ _ _ us hl => match us, hl with | [_], _ => rfl, bk_none rfl, _, rfl, rfl, c6⟩
theorem o7 {h24 : HF} : DefOk G (T h24) sts 7 "are_depths" (st 17) ["tree"] := ⟨rfl, fun _ _ _ _ _ _ us hl => match us, hl with | [_], _ => rfl, bk_none rfl, _, rfl, rfl, c7⟩
theorem o8 {h24 : HF} : DefOk G (T h24) sts 8 "is_tree_any" (st 18) ["value"] := ⟨rfl, fun _ _ _ _ _ _ us hl => match us, hl with | [_], _ => rfl, bk_none rfl, _, rfl, rfl, c8⟩
theorem o9 {h24 : HF} : DefOk G (T h24) sts 9 "parents_of" (st 19) ["tree"] := ⟨rfl, fun _ _ _ _ _ _ us hl => match us, hl with | [_], _ => rfl, bk_none rfl, _, rfl, rfl, c9⟩
theorem o10 {h24 : HF} : DefOk G (T h24) sts 10 "is_tree" (st 20) ["value"] := ⟨rfl, fun _ _ _ _ _ _ us hl => match us, hl with | [_], _ => rfl, bk_cons (fun _ => fun _ _ _ _ _ _ us ws h1 h2 => match ws, h1, h2 with | [_], _, h2 => match us, (Nat.add_right_cancel (m := 1) (h2 : us.length + 1 = 0 + 1) : us.length = 0) with | [], _ => rfl) (bk_cons (fun e => absurd e (by decide)) (bk_nil)), _, rfl, rfl, c10⟩
theorem o11 {h24 : HF} : DefOk G (T h24) sts 11 "first_twice" (st 22) ["values"] := ⟨rfl, fun _ _ _ _ _ _ us hl => match us, hl with | [_], _ => rfl, bk_none rfl, _, rfl, rfl, c11⟩
theorem o12 {h24 : HF} : DefOk G (T h24) sts 12 "depth_flaw" (st 23) ["tree"] := ⟨rfl, fun _ _ _ _ _ _ us hl => match us, hl with | [_], _ => rfl, bk_none rfl, _, rfl, rfl, c12⟩
theorem o13 {h24 : HF} : DefOk G (T h24) sts 13 "flaw_of_tree" (st 24) ["value"] := ⟨rfl, fun _ _ _ _ _ _ us hl => match us, hl with | [_], _ => rfl, bk_none rfl, _, rfl, rfl, c13⟩
theorem o14 {h24 : HF} : DefOk G (T h24) sts 14 "tree_flaw" (st 25) ["value"] := ⟨rfl, fun _ _ _ _ _ _ us hl => match us, hl with | [_], _ => rfl, bk_cons (fun e => absurd e (by decide)) (bk_cons (fun _ => fun _ _ _ _ _ _ us ws h1 h2 => match ws, h1, h2 with | [_], _, h2 => match us, (Nat.add_right_cancel (m := 1) (h2 : us.length + 1 = 0 + 1) : us.length = 0) with | [], _ => rfl) (bk_nil)), _, rfl, rfl, c14⟩
theorem o15 {h24 : HF} : DefOk G (T h24) sts 15 "_law_pot" (st 27) ["script", "k"] := ⟨rfl, fun _ _ _ _ _ _ us hl => match us, hl with | [_, _], _ => rfl, bk_none rfl, _, rfl, rfl, c15⟩
theorem o16 {h24 : HF} : DefOk G (T h24) sts 16 "_law_draw" (st 28) ["pot", "many"] := ⟨rfl, fun _ _ _ _ _ _ us hl => match us, hl with | [_, _], _ => rfl, bk_none rfl, _, rfl, rfl, c16⟩
theorem o17 {h24 : HF} : DefOk G (T h24) sts 17 "_law_pick" (st 29) ["pot", "some"] := ⟨rfl, fun _ _ _ _ _ _ us hl => match us, hl with | [_, _], _ => rfl, bk_none rfl, _, rfl, rfl, c17⟩
theorem o18 {h24 : HF} : DefOk G (T h24) sts 18 "_law_words" (st 30) ["pot"] := ⟨rfl, fun _ _ _ _ _ _ us hl => match us, hl with | [_], _ => rfl, bk_none rfl, _, rfl, rfl, c18⟩
theorem o19 {h24 : HF} : DefOk G (T h24) sts 19 "_law_tree" (st 31) ["pot", "most"] := ⟨rfl, fun _ _ _ _ _ _ us hl => match us, hl with | [_, _], _ => rfl, bk_none rfl, _, rfl, rfl, c19⟩
theorem o20 {h24 : HF} : DefOk G (T h24) sts 20 "_law_is_plain" (st 32) ["value", "least", "most"] := ⟨rfl, fun _ _ _ _ _ _ us hl => match us, hl with | [_, _, _], _ => rfl, bk_none rfl, _, rfl, rfl, c20⟩
theorem o21 {h24 : HF} : DefOk G (T h24) sts 21 "_law_is_name" (st 33) ["value"] := ⟨rfl, fun _ _ _ _ _ _ us hl => match us, hl with | [_], _ => rfl, bk_none rfl, _, rfl, rfl, c21⟩
theorem o22 {h24 : HF} : DefOk G (T h24) sts 22 "_law_are_words" (st 34) ["value"] := ⟨rfl, fun _ _ _ _ _ _ us hl => match us, hl with | [_], _ => rfl, bk_none rfl, _, rfl, rfl, c22⟩
theorem o23 {h24 : HF} : DefOk G (T h24) sts 23 "_law_is_row" (st 35) ["value"] := ⟨rfl, fun _ _ _ _ _ _ us hl => match us, hl with | [_], _ => rfl, bk_none rfl, _, rfl, rfl, c23⟩
theorem o24 {h24 : HF} (hh24 : HandOk G (T h24) "_law_flaw" (st 36) ["value"] 24 [.v]) : DefOk G (T h24) sts 24 "_law_flaw" (st 36) ["value"] := ⟨rfl, fun _ _ _ _ _ _ us hl => match us, hl with | [_], _ => rfl, bk_none rfl, _, rfl, hh24⟩
theorem o25 {h24 : HF} : DefOk G (T h24) sts 25 "_law_bent" (st 37) ["pot", "value"] := ⟨rfl, fun _ _ _ _ _ _ us hl => match us, hl with | [_, _], _ => rfl, bk_none rfl, _, rfl, rfl, c25⟩
theorem o26 {h24 : HF} : DefOk G (T h24) sts 26 "_law_edges" (st 38) ["pot"] := ⟨rfl, fun _ _ _ _ _ _ us hl => match us, hl with | [_], _ => rfl, bk_none rfl, _, rfl, rfl, c26⟩
theorem o27 {h24 : HF} : DefOk G (T h24) sts 27 "_law_value_right" (st 39) ["value"] := ⟨rfl, fun _ _ _ _ _ _ us hl => match us, hl with | [_], _ => rfl, bk_none rfl, _, rfl, rfl, c27⟩
theorem o28 {h24 : HF} : DefOk G (T h24) sts 28 "_law_right" (st 40) ["pot"] := ⟨rfl, fun _ _ _ _ _ _ us hl => match us, hl with | [_], _ => rfl, bk_none rfl, _, rfl, rfl, c28⟩
theorem o29 {h24 : HF} : DefOk G (T h24) sts 29 "law" (st 41) ["script"] := ⟨rfl, fun _ _ _ _ _ _ us hl => match us, hl with | [_], _ => rfl, bk_none rfl, _, rfl, rfl, c29⟩

end K10

set_option maxHeartbeats 8000000
/-! D31: defs told by hand. -/
namespace Mi
open PySem PySem.Spec PyProof.Rows L2
/-- what a def's flow gives -/
def FlRes (r : PyData × Bool) : Fl → Prop
  | .rt d fr => r = (d, fr)
  | .nx => r = (.none, false)
  | _ => False
section
variable {P : Program} {w : World} {K : PySem.W.Frag} {mg : Str → Option Value} {base : Heap} {G : GT} {T : List FE}
theorem ArgsOk.lenD {F H : Hp} {io : List Pk} {vs : List V} {ds : List PyData} {ps : List Addr} (h : ArgsOk K F H io vs ds ps) : ds.length = io.length := by
  induction h with
  | nil => rfl
  | v _ _ ih => rw [List.length_cons, List.length_cons, ih]
  | io _ _ _ _ ih => rw [List.length_cons, List.length_cons, ih]
  | sc _ _ _ ih => rw [List.length_cons, List.length_cons, ih]
theorem body_hand {X : Cx} {io : List Pk} {N : List Str} {st : Stmt} {env env' : En} {fl : Fl} {F H : Hp} {vs : List V} {ds : List PyData} {r : PyData × Bool} {outs : List (List PyData)} {ps : List Addr}
    (h1 : startE io ds (N.length - io.length) = some env) (hN : io.length ≤ N.length) (hbody : ∀ b : Bs, BsOk (ioIx io 0) b X → BSs X b (defBody st) env fl env') (h3 : outsOf env' (ioIx io 0) = some outs) (hfl : FlRes r fl)
    (hF : Same F H) (ha : ArgsOk X.K F H io vs ds ps) (hn : ps.Nodup) {Q : VK}
    (q : ∀ v F' H', Same F F' → Same F' H' → (∀ a o, H a = some o → a ∉ ps → H' a = some o) → (∀ a, F' a ≠ none → F a ≠ none ∨ H a = none) → OutsOk X.K F' H' ps outs → ResOk X.K H F' H' v r → Q v H') :
    WSs X (defBody st) { nx := fun _ H' => Q .non H', rt := Q } (L2.start N vs) H := by
  have hvl : vs.length = io.length := ha.len
  have S0 := start_stt X.w ha hF hn (N := N) (by rw [hvl]; exact hN) (by rw [hvl]; exact h1)
  have hb : BsOk (ioIx io 0) ⟨cut H ps, F, (ioIx io 0).zip ps, X.w⟩ X := ⟨fun q hq => (List.of_mem_zip (a := q.1) (b := q.2) hq).1, rfl⟩
  refine hbody ⟨cut H ps, F, (ioIx io 0).zip ps, X.w⟩ hb F _ H S0 _ fun σ' F' H' k1 S' => ?_
  obtain ⟨o1, o2⟩ := outs_ok S' (ha.il 0) (fun q hq => hq) h3
  have fin : ∀ {v : V} {d : PyData} {fr : Bool}, r = (d, fr) → Rz X.K ⟨cut H ps, F, (ioIx io 0).zip ps, X.w⟩ F' σ' H' env' v d fr → Q v H' := fun {v d fr} er rz => by
    subst er
    refine q v F' H' k1 S'.fh (fun a o e hm => S'.bh a o (by show cut H ps a = some o; rw [cut_of hm]; exact e)) (fun a ha' => ?_) o1 ?_
    · by_cases hm : a ∈ ps
      · exact absurd (o2 a hm).1 ha'
      · cases e : H a with
        | none => exact .inr rfl
        | some o => exact .inl (S'.nw a (by show cut H ps a ≠ none; rw [cut_of hm, e]; simp) ha')
    · have new : ∀ p, cut H ps p = none → ¬ OwnP env' σ' p → H p = none := fun p e no => by
        by_cases hm : p ∈ ps
        · exact (no (o2 p hm).2).elim
        · rw [cut_of hm] at e; exact e
      cases fr with
      | false => exact rz
      | true =>
        cases d with
        | list ds => obtain ⟨p, ws, e1, e2, e3, e4, e5, e6⟩ := rz; exact ⟨p, ws, e1, new p e3 e4, e2, e5, e6⟩
        | dict ds => obtain ⟨p, ws, e1, e2, e3, e4, e5, e6⟩ := rz; exact ⟨p, ws, e1, new p e3 e4, e2, e5, e6⟩
        | none => exact rz
        | bool x => exact rz
        | int x => exact rz
        | str x => exact rz
        | tuple x => exact rz
  cases fl with
  | nx => exact fin hfl Rv.non
  | rt d fr => exact fun v rz => fin hfl rz
  | bk => exact hfl.elim
  | ct => exact hfl.elim
/-- a def by hand: what its body does, told by g -/
theorem hand_ok {sts : List Stmt} {x : Str} {st : Stmt} {ps N : List Str} {f : Nat} {io : List Pk} {g : HF} (hT : T[f]? = some (.hand io g)) (hsc : scopeC N ps (defScope st) = true) (hil : io.length = ps.length) (hN : ps.length ≤ N.length)
    (hb : ∀ (n : Nat) (X : Cx), GoodS X (run T n) (ioOf T) G N (defScope st) n → ∀ ds r outs, g (run T n) (ioOf T) ds = some (r, outs) → ds.length = io.length → ∃ env fl env', startE io ds (N.length - io.length) = some env ∧ outsOf env' (ioIx io 0) = some outs ∧ FlRes r fl ∧
      ∀ b : Bs, BsOk (ioIx io 0) b X → BSs X b (defBody st) env fl env') : HandOk G T x st ps f io := by
  intro P w K mg base fa fd F hblt hcst n ih
  have sc := scopeC_ok hsc
  have hrun : ∀ ds, run T (n + 1) f ds = g (run T n) (ioOf T) ds := fun ds => by
    show (T[f]?).bind _ = _
    rw [hT]; rfl
  refine fng_of F sc (fun vs H Q E h => ?_) fun cdv A outer s H vs Q E hr hg h => ?_
  · obtain ⟨F, ds, r, outs, qs, e1, _, e2, _⟩ := h
    exact e2.len.trans hil
  · obtain ⟨F, ds, r, outs, qs, e1, e2, e3, e4, e5⟩ := h
    rw [hrun] at e1
    refine ⟨WSs (cxOf CX0 P w K mg base N x (defScope st) fa cdv A outer s H E).nox (defBody st), (pss_wss (defBody st)).nox, ?_⟩
    have hdl : ds.length = io.length := e3.lenD
    obtain ⟨env, fl, env', h1, h3, h4, h5⟩ := hb n (cxOf CX0 P w K mg base N x (defScope st) fa cdv A outer s H E).nox ⟨⟨rfl, sc.nd, fun y kd hy _ => hy, fun y hy => by exact absurd rfl (sc.nofree _ (PySem.mem_of_lookup hy)), fun _ _ => rfl, rfl, hr, hg, hblt, ih, hcst⟩, rfl, sc.kind, PassesOwn.never⟩ ds r outs e1 hdl
    exact body_hand (X := (cxOf CX0 P w K mg base N x (defScope st) fa cdv A outer s H E).nox) h1 (by rw [hil]; exact hN) h5 h3 h4 e2 e3 e4 e5
end
section
variable {X : Cx} {b : Bs} {Φ : Fns} {io : Nat → List Pk} {G : GT} {N : List Str} {ro : List Nat} {k : Nat}
/-- a prefix of a body in the small language -/
theorem sSs_pre : ∀ (l : MSs) {sc : Scope} {sts rest : List Stmt} {env env1 env' : En} {fl fl' : Fl}, GoodS X Φ io G N sc k → chkSs G N ro l sc sts = true → BsOk ro b X → exs Φ io ro l env = some (fl, env1) →
    (fl = .nx → BSs X b rest env1 fl' env') → (fl ≠ .nx → fl' = fl ∧ env' = env1) → BSs X b (sts ++ rest) env fl' env'
  | .nil, sc, sts, rest, env, env1, env', fl, fl', g, hc, hb, he, h1, h2 => by
    cases sts with
    | nil =>
      cases he
      exact h1 rfl
    | cons st sts => cases hc
  | .cons s l, sc, sts, rest, env, env1, env', fl, fl', g, hc, hb, he, h1, h2 => by
    cases sts with
    | nil => cases hc
    | cons st sts =>
      have hc : (chkS G N ro s sc st && chkSs G N ro l sc sts) = true := hc
      rw [Bool.and_eq_true] at hc
      obtain ⟨⟨f0, e0⟩, h0, he⟩ := Option.bind_eq_some_iff.mp (show (ex Φ io ro s env).bind _ = _ from he)
      have B0 := sS s X sc st g hc.1 b hb env f0 e0 h0
      cases f0 with
      | nx => exact bss_nx B0 (sSs_pre l g hc.2 hb he h1 h2)
      | rt d fr => cases he; obtain ⟨rfl, rfl⟩ := h2 (fun z => nomatch z); exact bss_end B0 (fun z => nomatch z)
      | bk => cases he; obtain ⟨rfl, rfl⟩ := h2 (fun z => nomatch z); exact bss_end B0 (fun z => nomatch z)
      | ct => cases he; obtain ⟨rfl, rfl⟩ := h2 (fun z => nomatch z); exact bss_end B0 (fun z => nomatch z)
end
end Mi

set_option maxHeartbeats 4000000
/-! D32: a dict of texts to lists that are appended to (setdefault), by hand: what stands apart from the slots. -/
namespace Mi
open PySem PySem.Spec PyProof.Rows L2
section
variable {K : PySem.W.Frag} {b b2 : Bs} {F : Hp} {σ : L2.St} {H : Hp} {env : En}
theorem Stt.less (S : Stt K b2 F σ H env) (h : Same b.B b2.B) (h0 : b.F0 = b2.F0) (hw : b.w = b2.w) (hio : ∀ q ∈ b.io, q ∈ b2.io) : Stt K b F σ H env := by
  have bN : ∀ a, b2.B a = none → b.B a = none := fun a e => by
    cases z : b.B a with
    | none => rfl
    | some o => rw [h a o z] at e; cases e
  refine ⟨S.fh, h.trans S.bh, h0 ▸ S.ff, fun a k1 k2 => ?_, S.len, fun j s hs => ?_, S.sep, fun q hq => S.ios q (hio q hq)⟩
  · rw [h0]
    refine S.nw a (fun z => k1 (bN a z)) k2
  · have h := S.sl j s hs
    cases s with
    | un => trivial
    | val d => exact h
    | own ds => obtain ⟨q, vs, k1, k2, k3, k4, k5⟩ := h; exact ⟨q, vs, k1, k2, k3, bN q k4, k5⟩
    | owd ds => obtain ⟨q, vs, k1, k2, k3, k4, k5⟩ := h; exact ⟨q, vs, k1, k2, k3, bN q k4, k5⟩
    | owt ds => obtain ⟨q, vs, k1, k2, k3, k4, k5⟩ := h; exact ⟨q, vs, k1, by rw [hw]; exact k2, k3, bN q k4, k5⟩
    | scr ds => exact h
/-- a slot whose place is kept in mind -/
theorem Stt.addIo (S : Stt K b F σ H env) {i : Nat} {p : Addr} (h : σ[i]? = some (some (.ref p))) : Stt K ⟨b.B, b.F0, (i, p) :: b.io, b.w⟩ F σ H env :=
  ⟨S.fh, S.bh, S.ff, S.nw, S.len, S.sl, S.sep, fun q hq => by
    rcases List.mem_cons.mp hq with z | z
    · subst z; exact h
    · exact S.ios q z⟩
theorem Stt.fN (S : Stt K b F σ H env) {q : Addr} {o : HO} (hq : b.B q = some o) (h0 : b.F0 q = none) : F q = none := by
  cases z : F q with
  | none => rfl
  | some u => exact absurd h0 (S.nw q (by rw [hq]; simp) (by rw [z]; simp))
def dropB (b : Bs) (q : Addr) : Bs := ⟨fun a => if a = q then none else b.B a, b.F0, b.io, b.w⟩
theorem dropB_le (b : Bs) (q : Addr) : Same (dropB b q).B b.B := fun a o e => by
  have e : (if a = q then none else b.B a) = some o := e
  split at e
  · cases e
  · exact e
/-- a kept list becomes the slot's own -/
theorem Stt.takeB (S : Stt K b F σ H env) {q : Addr} {ws : List V} {ds : List PyData} {i : Nat} (hq : b.B q = some (.lst ws)) (h0 : b.F0 q = none) (r : RvAll K F ws ds) (hσ : σ[i]? = some (some (.ref q))) : Stt K (dropB b q) F σ H (env.set i (.own ds)) := by
  have S1 : Stt K (dropB b q) F σ H env := S.less (dropB_le b q) rfl rfl fun _ h => h
  have fq := S.fN hq h0
  have no : ∀ j, ownAt env j → σ[j]? = some (some (.ref q)) → False := fun j hj e => by
    have := (S.own_ref ⟨j, hj, e⟩).2.2
    rw [hq] at this; cases this
  refine ⟨S1.fh, S1.bh, S1.ff, S1.nw, by rw [List.length_set]; exact S1.len, fun j t ht => ?_, fun j k p hj hk e1 e2 => ?_, S1.ios⟩
  · by_cases e : i = j
    · subst e
      by_cases hl : i < env.length
      · rw [List.getElem?_set_self hl] at ht; cases ht
        exact ⟨q, ws, hσ, S.bh _ _ hq, fq, if_pos rfl, r⟩
      · rw [List.getElem?_eq_none (by rw [List.length_set]; omega)] at ht; cases ht
    · rw [List.getElem?_set_ne e] at ht; exact S1.sl j t ht
  · rcases ownAt_set hj with ⟨z1, _⟩ | ⟨_, z1⟩
    · subst z1
      rw [hσ] at e1; cases e1
      rcases ownAt_set hk with ⟨z2, _⟩ | ⟨_, z2⟩
      · exact z2.symm
      · exact (no k z2 e2).elim
    · rcases ownAt_set hk with ⟨z2, _⟩ | ⟨_, z2⟩
      · subst z2
        rw [hσ] at e2; cases e2
        exact (no j z1 e1).elim
      · exact S1.sep j k p z1 z2 e1 e2
/-- .. and back -/
theorem Stt.putB (S : Stt K b F σ H env) {i : Nat} {ds : List PyData} (he : env[i]? = some (.own ds)) : ∃ q ws, σ[i]? = some (some (.ref q)) ∧ RvAll K F ws ds ∧ F q = none ∧ b.B q = none ∧ Stt K ⟨upd b.B q (.lst ws), b.F0, b.io, b.w⟩ F σ H (env.set i .un) := by
  obtain ⟨q, ws, h1, h2, h3, h4, h5⟩ := S.sl i _ he
  have S1 : Stt K b F σ H (env.set i .un) := S.setEnv trivial fun z => by simp [Sl.isOwn] at z
  have no : ¬ OwnP (env.set i .un) σ q := fun ⟨j, hj, e⟩ => by
    rcases ownAt_set hj with ⟨_, z⟩ | ⟨n, z⟩
    · simp [Sl.isOwn] at z
    · exact n (S.sep j i q z ⟨_, he, rfl⟩ e h1)
  exact ⟨q, ws, h1, h5, h3, h4, S1.keepP h3 h4 no h2⟩
/-- a kept thing is written -/
theorem Stt.setB (S : Stt K b F σ H env) {p : Addr} {o o' : HO} (hp : b.B p = some o) (h0 : b.F0 p = none) : Stt K ⟨upd b.B p o', b.F0, b.io, b.w⟩ F σ (upd H p o') env := by
  have fp := S.fN hp h0
  have no : ∀ j, ownAt env j → σ[j]? = some (some (.ref p)) → False := fun j hj e => by
    have := (S.own_ref ⟨j, hj, e⟩).2.2
    rw [hp] at this; cases this
  refine ⟨fun a u e => ?_, fun a u e => ?_, S.ff, fun a k1 k2 => ?_, S.len, fun j s hs => ?_, S.sep, S.ios⟩
  · rw [upd_ne (fun z => by rw [z, fp] at e; cases e)]; exact S.fh a u e
  · have e : upd b.B p o' a = some u := e
    by_cases z : a = p
    · rw [z, upd_same] at e ⊢; exact e
    · rw [upd_ne z] at e ⊢; exact S.bh a u e
  · by_cases z : a = p
    · rw [z] at k2; exact absurd fp k2
    · have k1 : upd b.B p o' a ≠ none := k1
      rw [upd_ne z] at k1; exact S.nw a k1 k2
  · have h := S.sl j s hs
    have ne : ∀ q, s.isOwn = true → σ[j]? = some (some (.ref q)) → q ≠ p := fun q so hq z => no j ⟨s, hs, so⟩ (z ▸ hq)
    have nb : ∀ q, q ≠ p → b.B q = none → (upd b.B p o') q = none := fun q n e => by rw [upd_ne n]; exact e
    cases s with
    | un => trivial
    | val d => exact h
    | own ds => obtain ⟨q, vs, k1, k2, k3, k4, k5⟩ := h; exact ⟨q, vs, k1, by rw [upd_ne (ne q rfl k1)]; exact k2, k3, nb q (ne q rfl k1) k4, k5⟩
    | owd ds => obtain ⟨q, vs, k1, k2, k3, k4, k5⟩ := h; exact ⟨q, vs, k1, by rw [upd_ne (ne q rfl k1)]; exact k2, k3, nb q (ne q rfl k1) k4, k5⟩
    | owt ds => obtain ⟨q, vs, k1, k2, k3, k4, k5⟩ := h; exact ⟨q, vs, k1, by rw [upd_ne (ne q rfl k1)]; exact k2, k3, nb q (ne q rfl k1) k4, k5⟩
    | scr ds => exact h
end
/-! ### the labels: texts to lists -/
def getL : List (Str × List PyData) → Str → Option (List PyData)
  | [], _ => none
  | (y, ds) :: r, x => if y = x then some ds else getL r x
def putL : List (Str × List PyData) → Str → List PyData → List (Str × List PyData)
  | [], x, es => [(x, es)]
  | (y, ds) :: r, x, es => if y = x then (y, es) :: r else (y, ds) :: putL r x es
def kvL : List (Str × Addr) → List (Key × V) := List.map fun e => (.inr e.1, .ref e.2)
/-- L: what the lists at the places ps hold -/
inductive LabR (K : PySem.W.Frag) (F B : Hp) : List (Str × Addr) → List (Str × List PyData) → Prop
  | nil : LabR K F B [] []
  | cons {x : Str} {q : Addr} {ws : List V} {ds : List PyData} {ps : List (Str × Addr)} {L : List (Str × List PyData)} : B q = some (.lst ws) → RvAll K F ws ds → LabR K F B ps L → LabR K F B ((x, q) :: ps) ((x, ds) :: L)
section
variable {K : PySem.W.Frag} {F F' B B' : Hp}
theorem LabR.mono (h : LabR K F B ps L) (e : Same F F') (k : ∀ e ∈ ps, ∀ o, B e.2 = some o → B' e.2 = some o) : LabR K F' B' ps L := by
  induction h with
  | nil => exact .nil
  | cons h1 h2 _ ih => exact .cons (k _ List.mem_cons_self _ h1) (h2.mono e) (ih fun e he => k e (List.mem_cons_of_mem _ he))
theorem LabR.length (h : LabR K F B ps L) : ps.length = L.length := by
  induction h with
  | nil => rfl
  | cons _ _ _ ih => rw [List.length_cons, List.length_cons, ih]
theorem LabR.there (h : LabR K F B ps L) : ∀ e ∈ ps, B e.2 ≠ none := by
  induction h with
  | nil => intro e he; cases he
  | cons h1 _ _ ih =>
    intro e he
    rcases List.mem_cons.mp he with z | z
    · subst z; rw [h1]; simp
    · exact ih e z
/-- a text that is there -/
theorem LabR.hit {x : Str} {v : V} (h : LabR K F B ps L) (hv : valV (kvL ps) (.inr x : Key) = some v) : ∃ q ws ds, v = .ref q ∧ (x, q) ∈ ps ∧ B q = some (.lst ws) ∧ RvAll K F ws ds ∧ getL L x = some ds := by
  induction h with
  | nil => cases hv
  | @cons y q ws ds ps L h1 h2 h3 ih =>
    by_cases e : y = x
    · subst e
      rw [show valV (kvL ((y, q) :: ps)) (.inr y : Key) = some (.ref q) from valV_pos (p := ((.inr y : Key), V.ref q)) rfl] at hv
      cases hv
      exact ⟨q, ws, ds, rfl, List.mem_cons_self, h1, h2, if_pos rfl⟩
    · rw [show valV (kvL ((y, q) :: ps)) (.inr x : Key) = valV (kvL ps) (.inr x) from valV_neg (p := ((.inr y : Key), V.ref q)) (fun z => e (Sum.inr.inj z))] at hv
      obtain ⟨q', ws', ds', k1, k2, k3, k4, k5⟩ := ih hv
      exact ⟨q', ws', ds', k1, List.mem_cons_of_mem _ k2, k3, k4, by unfold getL; rw [if_neg e]; exact k5⟩
/-- its list is another now -/
theorem LabR.put {x : Str} {q : Addr} {ws : List V} {ds : List PyData} (h : LabR K F B ps L) (hm : (x, q) ∈ ps) (nd : (ps.map (·.2)).Nodup) (nk : (ps.map (·.1)).Nodup) (hB : B' q = some (.lst ws)) (r : RvAll K F ws ds) (k : ∀ e ∈ ps, e.2 ≠ q → ∀ o, B e.2 = some o → B' e.2 = some o) :
    LabR K F B' ps (putL L x ds) := by
  induction h with
  | nil => cases hm
  | @cons y q' ws' ds' ps L h1 h2 h3 ih =>
    rw [List.map_cons, List.nodup_cons] at nd nk
    by_cases e : y = x
    · subst e
      have hq : q' = q := by
        rcases List.mem_cons.mp hm with z | z
        · cases z; rfl
        · exact absurd (List.mem_map.mpr ⟨_, z, rfl⟩) nk.1
      subst hq
      unfold putL
      rw [if_pos rfl]
      exact .cons hB r (h3.mono (Same.refl F) fun e he o ho => k e (List.mem_cons_of_mem _ he) (fun z => nd.1 (List.mem_map.mpr ⟨e, he, z⟩)) o ho)
    · have hm' : (x, q) ∈ ps := by
        rcases List.mem_cons.mp hm with z | z
        · cases z; exact absurd rfl e
        · exact z
      have hq : q' ≠ q := fun z => nd.1 (List.mem_map.mpr ⟨_, hm', z.symm⟩)
      unfold putL
      rw [if_neg e]
      exact .cons (k _ List.mem_cons_self hq _ h1) h2 (ih hm' nd.2 nk.2 fun e he hne o ho => k e (List.mem_cons_of_mem _ he) hne o ho)
theorem LabR.miss {x : Str} (h : LabR K F B ps L) (hv : valV (kvL ps) (.inr x : Key) = none) : getL L x = none ∧ (∀ ds, putL L x ds = L ++ [(x, ds)]) ∧ x ∉ ps.map (·.1) := by
  induction h with
  | nil => exact ⟨rfl, fun _ => rfl, by simp⟩
  | @cons y q ws ds ps L h1 h2 h3 ih =>
    have e : ¬ y = x := fun e => by
      subst e
      rw [show valV (kvL ((y, q) :: ps)) (.inr y : Key) = some (.ref q) from valV_pos (p := ((.inr y : Key), V.ref q)) rfl] at hv
      cases hv
    rw [show valV (kvL ((y, q) :: ps)) (.inr x : Key) = valV (kvL ps) (.inr x) from valV_neg (p := ((.inr y : Key), V.ref q)) (fun z => e (Sum.inr.inj z))] at hv
    obtain ⟨k1, k2, k3⟩ := ih hv
    refine ⟨by unfold getL; rw [if_neg e]; exact k1, fun ds => by unfold putL; rw [if_neg e, k2 ds]; rfl, ?_⟩
    rw [List.map_cons, List.mem_cons]
    rintro (z | z)
    · exact e z.symm
    · exact k3 z
theorem LabR.snoc {x : Str} {q : Addr} {ws : List V} {ds : List PyData} (h : LabR K F B ps L) (h1 : B q = some (.lst ws)) (h2 : RvAll K F ws ds) : LabR K F B (ps ++ [(x, q)]) (L ++ [(x, ds)]) := by
  induction h with
  | nil => exact .cons h1 h2 .nil
  | cons k1 k2 _ ih => exact .cons k1 k2 ih
end
end Mi

set_option maxHeartbeats 4000000
/-! D33: the loop that lays labels into a dict of lists, by hand. -/
namespace Mi
open PySem PySem.Spec PyProof.Rows L2
section
variable (Φ : Fns) (io : Nat → List Pk) (g : MG) (la nr : Nat) (s1 : MS) (key : ME) (tl : MSs)
def labL : List PyData → En → List (Str × List PyData) → Option (Fl × En)
  | [], en, _ => some (.nx, en)
  | it :: rest, en, L => (bindT g it en).bind fun en1 => (ex Φ io [la] s1 en1).bind fun p => match p.1 with
    | .nx => (ev Φ io key p.2).bind fun q => match q.1 with
      | .str x => if nr < q.2.length ∧ L.length + 1 < lim then (exs Φ io [la, nr] tl (q.2.set nr (.own ((getL L x).getD [])))).bind fun r => match r.1 with
        | .nx => match r.2[nr]? with
          | some (.own ds) => labL rest (r.2.set nr .un) (putL L x ds)
          | _ => none
        | .rt d fr => some (.rt d fr, r.2)
        | _ => none
        else none
      | _ => none
    | _ => none
def chkLab (G : GT) (N : List Str) (sc : Scope) (it : MI) : Stmt → Bool
  | .For tg iter (a :: .Assign [.Name near pn] (.Call (.Attribute (.Name labels pl) m apos) [ke, .List [] lp] [] cpos) pos2 :: rest) [] _ =>
    notSet iter && chkG N sc g tg && chkI G N [] it sc tg iter && chkS G N [la] s1 sc a && decide (m = "setdefault") && decide (N[nr]? = some near) && asgC sc near && decide (N[la]? = some labels) && visC sc labels && notDbg labels && decide (apos.endLine = cpos.line) && nost ke && chkE G N [la] key sc ke && chkSs G N [la, nr] tl sc rest && gOk [la] g && decide (nr ≠ la)
  | _ => false
end
section
variable {X : Cx} {b : Bs} {Φ : Fns} {io : Nat → List Pk} {G : GT} {N : List Str} {k : Nat} {g : MG} {la nr : Nat} {s1 : MS} {key : ME} {tl : MSs}
/-- how things stand at the head of a turn -/
structure LI (K : PySem.W.Frag) (b : Bs) (la : Nat) (p : Addr) (F : Hp) (σ : L2.St) (H : Hp) (en : En) (ps : List (Str × Addr)) (L : List (Str × List PyData)) (B' : Hp) : Prop where
  le : Same b.B B'
  dk : B' p = some (.dK (kvL ps))
  p0 : b.F0 p = none
  pB : b.B p = none
  lr : LabR K F B' ps L
  q0 : ∀ e ∈ ps, b.F0 e.2 = none ∧ b.B e.2 = none ∧ e.2 ≠ p
  nd : (ps.map (·.2)).Nodup
  nk : (ps.map (·.1)).Nodup
  S : Stt K ⟨B', b.F0, (la, p) :: b.io, b.w⟩ F σ H en
theorem LI.less {K : PySem.W.Frag} {p : Addr} {F H : Hp} {σ : L2.St} {en : En} {ps : List (Str × Addr)} {L : List (Str × List PyData)} {B' : Hp} (h : LI K b la p F σ H en ps L B') : Stt K b F σ H en :=
  h.S.less h.le rfl rfl fun q hq => List.mem_cons_of_mem _ hq
theorem lab_turn {sc : Scope} {a : Stmt} {near labels m : Str} {pn pl apos lp cpos pos2 : Pos} {ke : Expr} {rest : List Stmt} (gd : GoodS X Φ io G N sc k) (hbo : BsOk [] b X) (c1 : chkS G N [la] s1 sc a = true) (hm : m = "setdefault") (c2 : N[nr]? = some near) (c3 : asgC sc near = true) (c4 : N[la]? = some labels) (c5 : visC sc labels = true) (c6 : notDbg labels = true)
    (c7 : apos.endLine = cpos.line) (c8 : nost ke = true) (c9 : chkE G N [la] key sc ke = true) (c10 : chkSs G N [la, nr] tl sc rest = true) (hne : nr ≠ la)
    {p : Addr} {F H : Hp} {σ : L2.St} {en1 : En} {ps : List (Str × Addr)} {L : List (Str × List PyData)} {B' : Hp} (I : LI X.K b la p F σ H en1 ps L B')
    {en2 en3 en4 : En} {x : Str} {fl : Fl} (h1 : ex Φ io [la] s1 en1 = some (.nx, en2)) (h2 : ev Φ io key en2 = some (.str x, en3)) (h3 : exs Φ io [la, nr] tl (en3.set nr (.own ((getL L x).getD []))) = some (fl, en4)) (hl : L.length + 1 < lim) (hnr : nr < en3.length)
    {D : Ends} (q1 : ∀ σ' F' H' ds ps' B2, Same F F' → fl = .nx → en4[nr]? = some (.own ds) → LI X.K b la p F' σ' H' (en4.set nr .un) ps' (putL L x ds) B2 → D.nx σ' H')
    (q2 : ∀ σ' F' H' d fr v, Same F F' → fl = .rt d fr → Stt X.K b F' σ' H' en4 → Rz X.K b F' σ' H' en4 v d fr → D.rt v H') (q3 : fl ≠ .bk) (q4 : fl ≠ .ct) (hds : fl = .nx → ∃ ds, en4[nr]? = some (.own ds)) :
    WSs X (a :: .Assign [.Name near pn] (.Call (.Attribute (.Name labels pl) m apos) [ke, .List [] lp] [] cpos) pos2 :: rest) D σ H := by
  subst hm
  have bo' : ∀ B2 : Hp, BsOk [la] ⟨B2, b.F0, (la, p) :: b.io, b.w⟩ X := fun B2 => ⟨fun q hq => by
    rcases List.mem_cons.mp hq with z | z
    · subst z; exact List.mem_singleton.mpr rfl
    · exact absurd (hbo.1 q z) (by simp), hbo.2⟩
  have nio : ∀ q ∈ (la, p) :: b.io, q.1 ≠ nr := fun q hq e => by
    rcases List.mem_cons.mp hq with z | z
    · subst z; exact hne e.symm
    · exact absurd (hbo.1 q z) (by simp)
  have ndv : (Expr.List [] lp |> nost) = true := rfl
  -- the first statement
  have B1 := sS s1 X sc a gd c1 ⟨B', b.F0, (la, p) :: b.io, b.w⟩ (bo' B') en1 .nx en2 h1
  refine wss_of (pss_cons (ps_ws a) (pss_wss _)) (B1 F σ H I.S _ fun σ2 F2 H2 k2 S2 => ?_)
  -- the assignment
  refine wss_of (pss_cons (ps_ws _) (pss_wss _)) ?_
  obtain ⟨l1, l2⟩ := gd.g.loc c3
  have M : M2 X (.Name labels pl) "setdefault" apos ke (.List [] lp) cpos := ⟨rfl, by
    rw [star_cons c8, star_cons (env := X.env) ndv]; rfl, by rw [c7]; exact beq_self_eq_true _, by
    rw [star_cons c8, star_cons (env := X.env) ndv]; rfl⟩
  have Bk := ((sE key X sc ke gd.g c9 ⟨B', b.F0, (la, p) :: b.io, b.w⟩ (bo' B') en2).1 _ en3 h2).1.to
  have Bl : BE X ⟨B', b.F0, (la, p) :: b.io, b.w⟩ (.List [] lp) en3 (.list []) true en3 := be_lst (fun F σ H S Q q => wa_of pa_nil (q [] F H (Same.refl F) S .nil)) (by decide)
  refine ws_of (ps_set gd.g.ndX (gd.g.ix c2) l1 (pe_dsetd (pe_var (gd.g.ix c4) (gd.g.vis c5) (dbg_of c6).1 (dbg_of c6).2) (pe_we ke) (pe_we (.List [] lp)) M) (swaps_no rfl) l2) ?_
  refine ⟨.ref p, S2.ios (la, p) List.mem_cons_self, p, rfl, .inl ⟨_, .inl (S2.bh p _ I.dk)⟩, Bk F2 σ2 H2 S2 _ fun y F3 H3 k3 S3 r3 => Bl F3 σ2 H3 S3 _ fun z F4 H4 k4 S4 r4 => ?_⟩
  have r3 : Rv X.K F3 y (.str x) := r3
  have ey : y = .str x := by cases r3; rfl
  obtain ⟨l, ws, rfl, fl0, bl0, no, hl0, rl⟩ := r4
  have ews : ws = [] := by cases rl; rfl
  subst ews
  have kF : Same F F4 := k2.trans (k3.trans k4)
  have lr4 : LabR X.K F4 B' ps L := I.lr.mono kF fun _ _ _ h => h
  have hps : ps.length = L.length := I.lr.length
  -- what comes behind, from the near list on
  have go : ∀ (σ5 : L2.St) (H5 : Hp) (ps5 : List (Str × Addr)) (B5 : Hp) (q : Addr), Same b.B B5 → B5 q = none → B5 p = some (.dK (kvL ps5)) → (x, q) ∈ ps5 → (∀ ds ws, RvAll X.K F4 ws ds → True) → (ps5.map (·.2)).Nodup → (ps5.map (·.1)).Nodup → (∀ e ∈ ps5, b.F0 e.2 = none ∧ b.B e.2 = none ∧ e.2 ≠ p) →
      (∀ F6 B6, Same F4 F6 → (∀ e ∈ ps5, e.2 ≠ q → ∀ o, B5 e.2 = some o → B6 e.2 = some o) → ∀ ws ds, B6 q = some (.lst ws) → RvAll X.K F6 ws ds → LabR X.K F6 B6 ps5 (putL L x ds)) →
      σ5[nr]? = some (some (.ref q)) → Stt X.K ⟨B5, b.F0, (la, p) :: b.io, b.w⟩ F4 σ5 H5 (en3.set nr (.own ((getL L x).getD []))) → WSs X rest D σ5 H5 := fun σ5 H5 ps5 B5 q e1 e2 e3 e4 _ e5 e6 e7 e8 e9 S5 => by
    have bo2 : BsOk [la, nr] ⟨B5, b.F0, (nr, q) :: (la, p) :: b.io, b.w⟩ X := ⟨fun q hq => by
      rcases List.mem_cons.mp hq with z | z
      · subst z; exact List.mem_cons_of_mem _ (List.mem_singleton.mpr rfl)
      · rcases List.mem_cons.mp z with z | z
        · subst z; exact List.mem_cons_self
        · exact absurd (hbo.1 _ z) (by simp), hbo.2⟩
    have BT := sSs tl X sc rest gd c10 ⟨B5, b.F0, (nr, q) :: (la, p) :: b.io, b.w⟩ bo2 _ fl en4 h3
    refine BT F4 σ5 H5 (S5.addIo e9) D fun σ6 F6 H6 k6 S6 => ?_
    cases fl with
    | bk => exact (q3 rfl).elim
    | ct => exact (q4 rfl).elim
    | rt d fr =>
      intro v rz
      have Sb : Stt X.K b F6 σ6 H6 en4 := S6.less e1 rfl rfl fun q hq => List.mem_cons_of_mem _ (List.mem_cons_of_mem _ hq)
      refine q2 σ6 F6 H6 d fr v (kF.trans k6) rfl Sb ?_
      have bN : ∀ a, B5 a = none → b.B a = none := fun a e => by
        cases z : b.B a with
        | none => rfl
        | some o => rw [e1 a o z] at e; cases e
      cases fr with
      | false => exact rz
      | true =>
        cases d with
        | list ds => obtain ⟨p, vs, a1, a2, a3, a4, a5, a6⟩ := rz; exact ⟨p, vs, a1, a2, bN p a3, a4, a5, a6⟩
        | dict ds => obtain ⟨p, vs, a1, a2, a3, a4, a5, a6⟩ := rz; exact ⟨p, vs, a1, a2, bN p a3, a4, a5, a6⟩
        | none => exact rz
        | bool _ => exact rz
        | int _ => exact rz
        | str _ => exact rz
        | tuple _ => exact rz
    | nx =>
      obtain ⟨ds, hds⟩ := hds rfl
      obtain ⟨q', ws', a1, a2, a3, a4, S7⟩ := S6.putB hds
      have a0 := S6.ios (nr, q) List.mem_cons_self
      rw [a1] at a0
      cases a0
      obtain ⟨f1, f2, f3⟩ := e7 _ e4
      refine q1 σ6 F6 H6 ds ps5 (upd B5 q (.lst ws')) (kF.trans k6) rfl hds ⟨fun a o e => ?_, ?_, I.p0, I.pB, e8 F6 _ k6 (fun e he hn o ho => by rw [upd_ne hn]; exact ho) ws' ds upd_same a2, e7, e5, e6, S7.less (fun _ _ h => h) rfl rfl fun q hq => List.mem_cons_of_mem _ hq⟩
      · rw [upd_ne (fun z => by rw [z, f2] at e; cases e)]; exact e1 a o e
      · rw [upd_ne (fun z => f3 z.symm)]; exact e3
  have F0F : Same b.F0 F4 := S4.ff
  have lhp : l ≠ p := fun z => by
    have := I.dk
    rw [← z] at this
    have bl0 : B' l = none := bl0
    rw [bl0] at this; cases this
  refine ⟨kvL ps, .inr x, S4.bh p _ I.dk, ey, by rw [← lim_eq]; unfold kvL; rw [List.length_map, hps]; omega, fun v hv => ?_, fun hn => ?_⟩
  · obtain ⟨q, ws, ds, rfl, g1, g2, g3, g4⟩ := lr4.hit hv
    have S5 := S4.setS (i := nr) (v := .ref q) (s := .un) nio (fun _ => trivial) fun z => nomatch z
    have hi : nr < σ2.length := by rw [← S4.len]; exact hnr
    have S6 := S5.takeB (i := nr) (ds := ds) g2 (I.q0 _ g1).1 g3 (List.getElem?_set_self hi)
    rw [List.set_set] at S6
    refine go _ _ ps (dropB ⟨B', b.F0, (la, p) :: b.io, b.w⟩ q).B q (fun a o e => ?_) (if_pos rfl) ((if_neg (fun z => (I.q0 _ g1).2.2 z.symm)).trans I.dk) g1 (fun _ _ _ => trivial) I.nd I.nk I.q0 (fun F6 B6 k6 hk ws2 ds2 hB r => ?_) (List.getElem?_set_self hi) (by rw [g4]; exact S6)
    · exact (if_neg (fun z => by rw [z, (I.q0 _ g1).2.1] at e; cases e)).trans (I.le a o e)
    · exact (lr4.mono k6 fun _ _ _ h => h).put g1 I.nd I.nk hB r fun e he hne o ho => hk e he hne o ((if_neg hne).trans ho)
  · obtain ⟨g1, g2, g3⟩ := lr4.miss hn
    have ek : putK (kvL ps) (.inr x : Key) (.ref l) = kvL (ps ++ [(x, l)]) := by rw [putK_new _ hn]; unfold kvL; rw [List.map_append]; rfl
    have S5 := (S4.setZ (i := nr) (d := .list []) (fr := true) nio ⟨l, [], rfl, fl0, bl0, no, hl0, rl⟩).setB (o' := .dK (kvL (ps ++ [(x, l)]))) I.dk I.p0
    rw [ek]
    have hi : nr < σ2.length := by rw [← S4.len]; exact hnr
    have lB : B' l = none := bl0
    refine go _ _ (ps ++ [(x, l)]) (upd B' p (.dK (kvL (ps ++ [(x, l)])))) l (fun a o e => ?_) (by rw [upd_ne lhp]; exact lB) upd_same (List.mem_append_right _ (List.mem_singleton.mpr rfl)) (fun _ _ _ => trivial) ?_ ?_ (fun e he => ?_) (fun F6 B6 k6 hk ws2 ds2 hB r => ?_) (List.getElem?_set_self hi) (by rw [g1]; exact S5)
    · rw [upd_ne (fun z => by rw [z, I.pB] at e; cases e)]; exact I.le a o e
    · rw [List.map_append, List.nodup_append]
      refine ⟨I.nd, by simp, fun a ha c hc z => ?_⟩
      obtain ⟨e, he, rfl⟩ := List.mem_map.mp ha
      have hc : c = l := by simpa using hc
      exact lr4.there e he (by rw [z, hc]; exact lB)
    · rw [List.map_append, List.nodup_append]
      refine ⟨I.nk, by simp, fun a ha c hc z => ?_⟩
      have hc : c = x := by simpa using hc
      exact g3 (by rw [← hc, ← z]; exact ha)
    · rcases List.mem_append.mp he with z | z
      · exact I.q0 e z
      · have z : e = (x, l) := by simpa using z
        subst z
        exact ⟨F0F.free fl0, I.le.free lB, lhp⟩
    · rw [g2]
      refine (lr4.mono k6 fun e he o ho => ?_).snoc hB r
      have hel : e.2 ≠ l := fun z => by rw [z, lB] at ho; cases ho
      exact hk e (List.mem_append_left _ he) hel o (by rw [upd_ne (I.q0 e he).2.2]; exact ho)
theorem bs_lab {sc : Scope} {it : MI} {st : Stmt} (gd : GoodS X Φ io G N sc k) (hbo : BsOk [] b X) (hc : chkLab g la nr s1 key tl G N sc it st = true) {items : List PyData} {env e1 en' : En} {fl : Fl}
    (hi : evI Φ io it env = some (items, e1)) (h4 : e1[la]? = some (.owd [])) (hl : labL Φ io g la nr s1 key tl items (e1.set la .un) [] = some (fl, en')) : BS X b st env fl en' := by
  unfold chkLab at hc
  split at hc
  · rename_i tg iter a near pn labels pl m apos ke lp cpos pos2 rest pos
    simp only [Bool.and_eq_true, decide_eq_true_eq] at hc
    obtain ⟨⟨⟨⟨⟨⟨⟨⟨⟨⟨⟨⟨⟨⟨⟨c0, c1⟩, c2⟩, c3⟩, c4⟩, c5⟩, c6⟩, c7⟩, c8⟩, c9⟩, c10⟩, c11⟩, c12⟩, c13⟩, c14⟩, c15⟩ := hc
    have hg : BG X tg g := chkG_ok gd.g c1
    have hI := sI it X sc _ _ gd.g c2 b hbo env items e1 hi
    exact fun F σ H S D q => ws_of (ps_for gd.pass gd.g.calm (pi_wi tg iter) (pg_wg tg) (pss_wss _) (fs_of c0)) (hI F σ H S _ fun J F1 H1 k1 S1 w => by
      obtain ⟨p, vs, a1, a2, a3, a4, a5⟩ := S1.sl la _ h4
      have evs : vs = [] := by cases a5; rfl
      subst evs
      have Su : Stt X.K b F1 σ H1 (e1.set la .un) := S1.setEnv trivial fun z => by simp [Sl.isOwn] at z
      have no : ¬ OwnP (e1.set la .un) σ p := fun ⟨j, hj, e⟩ => by
        rcases ownAt_set hj with ⟨_, z⟩ | ⟨n, z⟩
        · simp [Sl.isOwn] at z
        · exact n (S1.sep j la p z ⟨_, h4, rfl⟩ e a1)
      have I0 : LI X.K b la p F1 σ H1 (e1.set la .un) [] [] (upd b.B p (.dK [])) :=
        ⟨fun a o e => by rw [upd_ne (fun z => by rw [z, a4] at e; cases e)]; exact e, upd_same, S1.ff.free a3, a4, .nil, (fun e he => nomatch he), List.nodup_nil, List.nodup_nil, (Su.keepP a3 a4 no a2).addIo a1⟩
      refine for_it w (fun i σ' H' => ∃ F' en p ps L B', Same F1 F' ∧ LI X.K b la p F' σ' H' en ps L B' ∧ labL Φ io g la nr s1 key tl (items.drop i) en L = some (fl, en')) ⟨F1, _, p, _, _, _, Same.refl F1, I0, by rw [List.drop_zero]; exact hl⟩ ?_ ?_ ?_
      · intro i σ' H' hi ⟨F', en, p, ps, L, B', kk, I, _⟩
        exact kk.trans I.S.fh
      · intro i x σ' H' H2 hi ⟨F', en, p, ps, L, B', kk, I, hf⟩ ⟨d, hd, y⟩
        have S' := I.S
        obtain ⟨F2, k2, S2, rx⟩ : ∃ F2, Same F' F2 ∧ Stt X.K ⟨B', b.F0, (la, p) :: b.io, b.w⟩ F2 σ' H2 en ∧ Rv X.K F2 x d := by
          rcases y with ⟨rfl, rx⟩ | ⟨T, y, z, dy, dz, rfl, hT, rfl, ry, rz, rfl⟩
          · exact ⟨F', Same.refl F', S', rx.mono kk⟩
          · obtain ⟨j1, j2, j3⟩ := S'.mkT hT (.cons (ry.mono kk) (.cons (rz.mono kk) .nil))
            exact ⟨_, j1, j2, j3⟩
        have hdrop : items.drop i = d :: items.drop (i + 1) := by
          obtain ⟨h1, h2⟩ := List.getElem?_eq_some_iff.mp hd
          rw [List.drop_eq_getElem_cons h1, h2]
        rw [hdrop] at hf
        obtain ⟨env1, hb1, hf⟩ := Option.bind_eq_some_iff.mp (show (bindT g d en).bind _ = _ from hf)
        obtain ⟨⟨fl1, en2⟩, h1, hf⟩ := Option.bind_eq_some_iff.mp hf
        cases fl1 with
        | bk => cases hf
        | ct => cases hf
        | rt _ _ => cases hf
        | nx =>
          obtain ⟨⟨kd, en3⟩, h2, hf⟩ := Option.bind_eq_some_iff.mp (show (ev Φ io key en2).bind _ = _ from hf)
          cases kd with
          | str xk =>
            have hf : (if nr < en3.length ∧ L.length + 1 < lim then (exs Φ io [la, nr] tl (en3.set nr (.own ((getL L xk).getD [])))).bind fun r => match r.1 with
              | .nx => match r.2[nr]? with
                | some (.own ds) => labL Φ io g la nr s1 key tl (items.drop (i + 1)) (r.2.set nr .un) (putL L xk ds)
                | _ => none
              | .rt d fr => some (.rt d fr, r.2)
              | _ => none
              else none) = some (fl, en') := hf
            split at hf
            · rename_i hh
              obtain ⟨⟨fl2, en4⟩, h3, hf⟩ := Option.bind_eq_some_iff.mp hf
              refine hg _ F2 σ' H2 x d en env1 (fun q hq hm => ?_) S2 rx hb1 _ fun σ3 S3 _ _ => ?_
              · rcases List.mem_cons.mp hq with z | z
                · subst z; exact gOk_of c14 _ hm (List.mem_singleton.mpr rfl)
                · exact absurd (hbo.1 q z) (by simp)
              have I3 : LI X.K b la p F2 σ3 H2 env1 ps L B' := ⟨I.le, I.dk, I.p0, I.pB, I.lr.mono k2 fun _ _ _ h => h, I.q0, I.nd, I.nk, S3⟩
              refine lab_turn gd hbo c3 c4 c5 c6 c7 c8 c9 c10 c11 c12 c13 c15 I3 h1 h2 h3 hh.2 hh.1 (fun σ4 F4 H4 ds ps' B2 k4 e1 e2 I4 => ?_) (fun σ4 F4 H4 d fr v k4 e1 S4 rz => ?_) (fun z => ?_) (fun z => ?_) fun z => ?_
              · subst e1
                have hf : (match en4[nr]? with
                  | some (.own ds) => labL Φ io g la nr s1 key tl (items.drop (i + 1)) (en4.set nr .un) (putL L xk ds)
                  | _ => none) = some (fl, en') := hf
                rw [e2] at hf
                exact ⟨F4, _, p, ps', _, B2, kk.trans (k2.trans k4), I4, hf⟩
              · subst e1
                cases hf
                exact q σ4 F4 H4 (k1.trans (kk.trans (k2.trans k4))) S4 v rz
              · subst z; cases hf
              · subst z; cases hf
              · subst z
                have hf : (match en4[nr]? with
                  | some (.own ds) => labL Φ io g la nr s1 key tl (items.drop (i + 1)) (en4.set nr .un) (putL L xk ds)
                  | _ => none) = some (fl, en') := hf
                split at hf
                · rename_i ds hds; exact ⟨ds, hds⟩
                · cases hf
            · cases hf
          | none => cases hf
          | bool _ => cases hf
          | int _ => cases hf
          | list _ => cases hf
          | tuple _ => cases hf
          | dict _ => cases hf
      · intro σ' H' ⟨F', en, p, ps, L, B', kk, I, hf⟩
        rw [List.drop_length] at hf
        cases hf
        exact q σ' F' H' (k1.trans kk) I.less)
  · cases hc
end
end Mi

set_option maxHeartbeats 4000000
/-! The def of k10 that lays labels, by hand. -/
namespace K10
open PySem Mi L2
def N24 : List Str := ["value", "at", "row", "line", "labels", "near", "one"]
def pre24 : MSs := (.cons (.ifs (.or_ (.not_ (.isi (.var 0) "tuple")) (.not_ (.chn .Lt .Lt (.cst (.int 0)) (.blt .len (.cons (.var 0) .nil)) (.cst (.int 201))))) (.cons (.ret (.tup (.cons (.cst (.str "form")) .nil)))
    .nil) .nil)
    (.cons (.for_ (.tp [1, 2]) (.enu (.var 0)) (.cons (.ifs (.not_ (.call 23 (.cons (.var 2) .nil) .nil [])) (.cons (.ret (.tup (.cons (.cst (.str "row")) (.cons (.var 1) .nil))))
    .nil) .nil)
    .nil))
    (.cons (.for_ (.tp [1, 2]) (.enu (.var 0)) (.cons (.ifs (.cmp .In (.idx (.var 2) (.cst (.int 0))) (.comp [6] (.nm 6) (.seq (.slc (.var 0) .no (.so (.var 1)))) .no (.idx (.var 6) (.cst (.int 0))))) (.cons (.ret (.tup (.cons (.cst (.str "name")) (.cons (.var 1) .nil))))
    .nil) .nil)
    .nil))
    (.cons (.for_ (.tp [1, 2]) (.enu (.var 0)) (.cons (.ifs (.or_ (.and_ (.cmp .Eq (.var 1) (.cst (.int 0))) (.cmp .NotEq (.idx (.var 2) (.cst (.int 1))) (.cst (.int 0)))) (.and_ (.cmp .Gt (.var 1) (.cst (.int 0))) (.not_ (.chn .Lt .LtE (.cst (.int 0)) (.idx (.var 2) (.cst (.int 1))) (.bin .Add (.idx (.idx (.var 0) (.bin .Sub (.var 1) (.cst (.int 1)))) (.cst (.int 1))) (.cst (.int 1))))))) (.cons (.ret (.tup (.cons (.cst (.str "depth")) (.cons (.var 1) .nil))))
    .nil) .nil)
    .nil))
    (.cons (.asgs [3, 4] (.cons (.lst .nil) (.cons .dct0 .nil)))
    .nil)))))
def s24 : MS := .asg 3 (.slc (.var 3) .no (.so (.idx (.var 2) (.cst (.int 1)))))
def key24 : ME := .ife (.cmp .NotEq (.var 3) (.lst .nil)) (.idx (.var 3) (.neg (.cst (.int 1)))) (.cst (.str ""))
def tl24 : MSs := (.cons (.ifs (.cmp .In (.idx (.var 2) (.cst (.int 2))) (.var 5)) (.cons (.ret (.tup (.cons (.cst (.str "label")) (.cons (.var 1) .nil))))
    .nil) .nil)
    (.cons (.app 5 (.idx (.var 2) (.cst (.int 2))))
    (.cons (.app 3 (.idx (.var 2) (.cst (.int 0))))
    .nil)))
def it24 : MI := .enu (.var 0)
def last24 : MSs := .cons (.ret (.cst .none)) .nil
def g24 : HF := fun Φ io ds => (startE [.v] ds 6).bind fun env => (exs Φ io [] pre24 env).bind fun (p : Fl × En) => match p.1 with
  | .rt d fr => some ((d, fr), [])
  | .nx => (evI Φ io it24 p.2).bind fun (q : List PyData × En) => match q.2[4]? with
    | some (Mi.Sl.owd []) => (labL Φ io (.tp [1, 2]) 4 5 s24 key24 tl24 q.1 (q.2.set 4 .un) []).bind fun (r : Fl × En) => match r.1 with
      | .rt d fr => some ((d, fr), [])
      | .nx => some ((.none, false), [])
      | _ => none
    | _ => none
  | _ => none
def chk24 (G : GT) (st : Stmt) : Bool := match defBody st with
  | a0 :: a1 :: a2 :: a3 :: a4 :: a5 :: a6 :: [] => chkSs G N24 [] pre24 (defScope st) [a0, a1, a2, a3, a4] && chkLab (.tp [1, 2]) 4 5 s24 key24 tl24 G N24 (defScope st) it24 a5 && chkSs G N24 [] last24 (defScope st) [a6]
  | _ => false
theorem ch24 : chk24 G (st 36) = true := by decide +kernel
theorem sc24 : scopeC N24 ["value"] (defScope (st 36)) = true := by decide +kernel
def TT : List FE := T g24
theorem hand24 : HandOk G TT "_law_flaw" (st 36) ["value"] 24 [.v] := by
  refine hand_ok (sts := sts) (g := g24) (N := N24) rfl sc24 rfl (by decide) fun n X gd ds r outs hg hlen => ?_
  obtain ⟨env, h0, hg⟩ := Option.bind_eq_some_iff.mp (show (startE [.v] ds 6).bind _ = _ from hg)
  obtain ⟨⟨fl, e1⟩, h1, hg⟩ := Option.bind_eq_some_iff.mp hg
  have hc : chk24 G (st 36) = true := ch24
  unfold chk24 at hc
  split at hc
  · rename_i a0 a1 a2 a3 a4 a5 a6 hb
    simp only [Bool.and_eq_true] at hc
    obtain ⟨⟨k1, k2⟩, k3⟩ := hc
    have pre : ∀ {fl' : Fl} {env' : En}, (fl = .nx → ∀ b : Bs, BsOk [] b X → BSs X b [a5, a6] e1 fl' env') → (fl ≠ .nx → fl' = fl ∧ env' = e1) → ∀ b : Bs, BsOk (ioIx [.v] 0) b X → BSs X b (defBody (st 36)) env fl' env' := fun {fl' env'} q1 q2 b hbo => by
      rw [hb]
      exact sSs_pre pre24 gd k1 hbo h1 (fun z => q1 z b hbo) q2
    cases fl with
    | bk => cases hg
    | ct => cases hg
    | rt d fr =>
      cases hg
      exact ⟨env, .rt d fr, e1, h0, rfl, rfl, pre (fun z => nomatch z) fun _ => ⟨rfl, rfl⟩⟩
    | nx =>
      obtain ⟨⟨items, e2⟩, h2, hg⟩ := Option.bind_eq_some_iff.mp (show (evI (run TT n) (ioOf TT) it24 e1).bind _ = _ from hg)
      dsimp only at hg
      split at hg
      · rename_i h4
        obtain ⟨⟨fl3, e3⟩, h3, hg⟩ := Option.bind_eq_some_iff.mp hg
        have lab : ∀ b : Bs, BsOk [] b X → BS X b a5 e1 fl3 e3 := fun b hbo => bs_lab gd hbo k2 h2 h4 h3
        cases fl3 with
        | bk => cases hg
        | ct => cases hg
        | rt d fr =>
          cases hg
          exact ⟨env, .rt d fr, e3, h0, rfl, rfl, pre (fun _ b hbo => bss_end (lab b hbo) fun z => nomatch z) fun z => (z rfl).elim⟩
        | nx =>
          cases hg
          exact ⟨env, .rt .none false, e3, h0, rfl, rfl, pre (fun _ b hbo => bss_nx (lab b hbo) (sSs last24 X _ _ gd k3 b hbo e3 _ e3 rfl)) fun z => (z rfl).elim⟩
      · cases hg
  · cases hc
end K10

set_option maxHeartbeats 2000000
/-! W1: walking through a def of the small language: Ok r Q (r gives something, of which Q holds). -/
namespace Mi
open PySem PySem.Spec PyProof.Rows L2

@[irreducible] def Ok {α : Type} (r : Option α) (Q : α → Prop) : Prop := ∃ a, r = some a ∧ Q a
/-- the same, to be seen through -/
def Ex {α : Type} (r : Option α) (Q : α → Prop) : Prop := ∃ a, r = some a ∧ Q a
section
variable {α β : Type} {Q : α → Prop} {R : β → Prop} {r r' : Option α} {f : α → Option β} {g : α → β} {a b : α}
theorem ok_iff : Ok r Q ↔ ∃ a, r = some a ∧ Q a := by unfold Ok; exact Iff.rfl
theorem Ex.ok (h : Ex r Q) : Ok r Q := ok_iff.mpr h
theorem ok_some : Ok (some a) Q ↔ Q a := ok_iff.trans ⟨fun ⟨_, h, q⟩ => by cases h; exact q, fun q => ⟨_, rfl, q⟩⟩
theorem ok_none : Ok none Q ↔ False := ok_iff.trans ⟨(fun ⟨_, h, _⟩ => (nomatch h)), fun h => h.elim⟩
theorem ok_bind : Ok (r.bind f) R ↔ Ok r fun a => Ok (f a) R := by
  cases r with
  | none => simp [ok_none]
  | some a => simp [ok_some]
theorem ok_map : Ok (r.map g) R ↔ Ok r fun a => R (g a) := by
  cases r with
  | none => simp [ok_none]
  | some a => simp [ok_some]
theorem ok_ite {c : Prop} [Decidable c] {x y : Option α} : Ok (if c then x else y) Q ↔ if c then Ok x Q else Ok y Q := by
  by_cases h : c <;> simp [h]
theorem Ok.mono {Q' : α → Prop} (h : Ok r Q) (i : ∀ a, Q a → Q' a) : Ok r Q' := let ⟨a, e, q⟩ := ok_iff.mp h; ok_iff.mpr ⟨a, e, i a q⟩
theorem ok_eq : (Ok r fun x => x = a) ↔ r = some a := ⟨fun h => let ⟨_, h, q⟩ := ok_iff.mp h; q ▸ h, fun h => ok_iff.mpr ⟨_, h, rfl⟩⟩
theorem ok_of (h : r = some a) (q : Q a) : Ok r Q := ok_iff.mpr ⟨a, h, q⟩
theorem Ok.eq (h : Ok r fun x => x = a) : r = some a := ok_eq.mp h
end

section
variable (Φ : Fns) (io : Nat → List Pk) (ro : List Nat)
/-- a loop, its body unseen -/
@[irreducible] def forS (g : MG) (b : MSs) (xs : List PyData) (env : En) : Option (Fl × En) := forL g (fun e => exs Φ io ro b e) xs env
@[irreducible] def whlS (c : ME) (b : MSs) (n : Nat) (env : En) : Option (Fl × En) := whlL (fun e => tstO (opd c e (ev Φ io c e))) (fun e => exs Φ io ro b e) n env
@[irreducible] def compS (vs : List Nat) (g : MG) (c : MO) (e : ME) (xs : List PyData) (env : En) : Option (PyData × En) :=
  (compL vs g (fun en => evC Φ io c en) (fun en => ev Φ io e en) xs [] env).map fun q => (.list q.1, backE env q.2 vs)
variable {Φ io ro} {env : En}
theorem ev_cst (d) : ev Φ io (.cst d) env = some (d, env) := rfl
theorem ev_glo (x d) : ev Φ io (.glo x d) env = some (d, env) := rfl
theorem ev_var (i) : ev Φ io (.var i) env = evVar i env := rfl
theorem ev_not (a) : ev Φ io (.not_ a) env = (tstO (opd a env (ev Φ io a env))).map fun p => (.bool (!p.1), p.2) := rfl
theorem ev_and (a b) : ev Φ io (.and_ a b) env = (ev Φ io a env).bind fun p => if truth p.1 = true then ev Φ io b p.2 else some p := rfl
theorem ev_or (a b) : ev Φ io (.or_ a b) env = (ev Φ io a env).bind fun p => if truth p.1 = true then some p else ev Φ io b p.2 := rfl
theorem ev_ife (c a b) : ev Φ io (.ife c a b) env = (tstO (opd c env (ev Φ io c env))).bind fun p => if p.1 = true then ev Φ io a p.2 else ev Φ io b p.2 := rfl
theorem ev_cmp (op a b) : ev Φ io (.cmp op a b) env = (opd a env (ev Φ io a env)).bind fun p => (opd b p.2 (ev Φ io b p.2)).bind fun q => (cmpE op p.1 q.1 q.2).map fun t => (.bool t, q.2) := rfl
theorem ev_chn (o1 o2 a b c) : ev Φ io (.chn o1 o2 a b c) env = (opd a env (ev Φ io a env)).bind fun p => (opd b p.2 (ev Φ io b p.2)).bind fun q =>
      (rdO q.2 p.1).bind fun x => (rdO q.2 q.1).bind fun y => (cmpD o1 x y).bind fun t => if t = true then
        (opd c q.2 (ev Φ io c q.2)).bind fun r => (rdO r.2 q.1).bind fun y' => (rdO r.2 r.1).bind fun z => (cmpD o2 y' z).map fun u => (.bool u, r.2)
      else some (.bool false, q.2) := rfl
theorem ev_bin (op a b) : ev Φ io (.bin op a b) env = (opd a env (ev Φ io a env)).bind fun p => (opd b p.2 (ev Φ io b p.2)).bind fun q => (rdO q.2 p.1).bind fun x => (rdO q.2 q.1).bind fun y => (binD op x y).map fun z => (z, q.2) := rfl
theorem ev_neg (a) : ev Φ io (.neg a) env = (ev Φ io a env).bind fun p => match p.1 with
    | .int i => some (.int (-i), p.2)
    | _ => none := rfl
theorem ev_tup (l) : ev Φ io (.tup l) env = (evs Φ io l env).bind fun p => if p.1.length ≤ lim then some (.tuple p.1, p.2) else none := rfl
theorem ev_lst (l) : ev Φ io (.lst l) env = (evs Φ io l env).bind fun p => if p.1.length ≤ lim then some (.list p.1, p.2) else none := rfl
theorem ev_dct0 : ev Φ io .dct0 env = some (.dict [], env) := rfl
theorem ev_idx (a i) : ev Φ io (.idx a i) env = (opd a env (ev Φ io a env)).bind fun p => (opd i p.2 (ev Φ io i p.2)).bind fun q => (rdS q.2 p.1).bind fun x => (rdO q.2 q.1).bind fun y => (idxD x y).map fun z => (z, q.2) := rfl
theorem ev_slc (a lo hi) : ev Φ io (.slc a lo hi) env = (opd a env (ev Φ io a env)).bind fun p => (evO Φ io lo p.2).bind fun q => (evO Φ io hi q.2).bind fun r => (rdO r.2 p.1).bind fun x => (slcD q.1 r.1 x).map fun z => (z, r.2) := rfl
theorem ev_rev (a) : ev Φ io (.rev a) env = (opd a env (ev Φ io a env)).bind fun p => (rdO p.2 p.1).bind fun x => (revD x).map fun z => (z, p.2) := rfl
theorem ev_isi (a T) : ev Φ io (.isi a T) env = (opd a env (ev Φ io a env)).bind fun p => (rdO p.2 p.1).bind fun x => (isiD T x).map fun z => (.bool z, p.2) := by
  simp only [ev, bnd1]; congr; funext p; congr; funext x; cases isiD T x <;> rfl
theorem ev_call (f l lk kw) : ev Φ io (.call f l lk kw) env = (evos Φ io l env).bind fun p => (evos Φ io lk p.2).bind fun q => (place kw (p.1 ++ q.1)).bind fun os => (callM Φ io f os q.2).map fun q => (q.1.1, q.2) := rfl
theorem ev_callT (f g l) : ev Φ io (.callT f g l) env = (evos Φ io l env).bind fun p => (callM Φ io g p.1 p.2).bind fun q => (callTM Φ io f q).map fun q => (q.1.1, q.2) := rfl
theorem ev_lzip (a b) : ev Φ io (.lzip a b) env = (ev Φ io a env).bind fun p => (ev Φ io b p.2).bind fun q => match p.1, q.1 with
    | .list xs, .list ys => some (.list (zipL xs ys), q.2)
    | _, _ => none := rfl
theorem ev_rpr (a) : ev Φ io (.rpr a) env = (opd a env (ev Φ io a env)).bind fun p => (rdO p.2 p.1).bind fun x => (reprF x).map fun z => (z, p.2) := rfl
theorem ev_lset (a) : ev Φ io (.lset a) env = (opd a env (ev Φ io a env)).bind fun p => (rdO p.2 p.1).bind fun x => (lsetF x).map fun z => (z, p.2) := rfl
theorem ev_blt (f l) : ev Φ io (.blt f l) env = (evos Φ io l env).bind fun p => (rdF f p.2 p.1).bind fun ds => (bltD f ds).map fun z => (z, p.2) := rfl
theorem ev_met (m a l) : ev Φ io (.met m a l) env = (opd a env (ev Φ io a env)).bind fun p => (evos Φ io l p.2).bind fun q => (rdO q.2 p.1).bind fun x => if (rdO p.2 p.1).map tyN = some (tyN x) then (rdM m q.2 q.1).bind fun ds => (metD m x ds).map fun z => (z, q.2) else none := rfl
theorem ev_comp (vs g it c e) : ev Φ io (.comp vs g it c e) env = (evI Φ io it env).bind fun p => if vs.all (notOwn p.2) = true then compS Φ io vs g c e p.1 p.2 else none := by unfold compS; rfl
theorem evs_nil : evs Φ io .nil env = some ([], env) := rfl
theorem evs_cons (a l) : evs Φ io (.cons a l) env = (ev Φ io a env).bind fun p => (evs Φ io l p.2).map fun q => (p.1 :: q.1, q.2) := rfl
theorem evos_nil : evos Φ io .nil env = some ([], env) := rfl
theorem evos_cons (a l) : evos Φ io (.cons a l) env = (opd a env (ev Φ io a env)).bind fun p => (evos Φ io l p.2).map fun q => (p.1 :: q.1, q.2) := rfl
theorem evO_no : evO Φ io .no env = some (none, env) := rfl
theorem evO_so (a) : evO Φ io (.so a) env = (ev Φ io a env).bind fun p => (asInt p.1).map fun i => (some i, p.2) := rfl
theorem evC_no : evC Φ io .no env = some (true, env) := rfl
theorem evC_so (a) : evC Φ io (.so a) env = tstO (opd a env (ev Φ io a env)) := rfl
theorem evI_seq (a) : evI Φ io (.seq a) env = (ev Φ io a env).bind fun p => (seqItems p.1).map fun ds => (ds, p.2) := rfl
theorem evI_rng (a) : evI Φ io (.rng a) env = (ev Φ io a env).bind fun p => match p.1 with
    | .int j => if -(2 ^ 62) ≤ j ∧ j < 2 ^ 62 then some (intsFrom 0 j.toNat, p.2) else none
    | _ => none := rfl
theorem evI_rng2 (a b) : evI Φ io (.rng2 a b) env = (ev Φ io a env).bind fun p => (ev Φ io b p.2).bind fun q => match p.1, q.1 with
    | .int i, .int j => if -(2 ^ 62) ≤ i ∧ i < 2 ^ 62 ∧ -(2 ^ 62) ≤ j ∧ j < 2 ^ 62 then some (intsFrom i (j - i).toNat, q.2) else none
    | _, _ => none := rfl
theorem evI_enu (a) : evI Φ io (.enu a) env = (ev Φ io a env).bind fun p => (ltItems p.1).map fun ds => (enumL 0 ds, p.2) := rfl
theorem evI_zip (a b) : evI Φ io (.zip a b) env = (ev Φ io a env).bind fun p => (ev Φ io b p.2).bind fun q => (ltItems p.1).bind fun xs => (ltItems q.1).map fun ys => (zipL xs ys, q.2) := rfl
/-- an operand that is no name -/
def isVarE : ME → Bool
  | .var .. => true
  | .cst .. => false
  | .glo .. => false
  | .not_ .. => false
  | .and_ .. => false
  | .or_ .. => false
  | .ife .. => false
  | .cmp .. => false
  | .chn .. => false
  | .bin .. => false
  | .neg .. => false
  | .tup .. => false
  | .lst .. => false
  | .dct0 .. => false
  | .idx .. => false
  | .slc .. => false
  | .rev .. => false
  | .isi .. => false
  | .lzip .. => false
  | .rpr .. => false
  | .lset .. => false
  | .blt .. => false
  | .met .. => false
  | .comp .. => false
  | .call .. => false
  | .callT .. => false
theorem opd_nw {a : ME} {r} (h : isVarE a = false) : opd a env r = r.map fun p => (.dt p.1, p.2) := by
  cases a <;> first | rfl | cases h
theorem opd_val {i : Nat} {d r} (h : env[i]? = some (.val d)) : opd (.var i) env r = some (.dt d, env) := by
  simp only [opd, h]
theorem opd_var (i : Nat) (r) : opd (.var i) env r = match env[i]? with
    | some (.val d) => some (.dt d, env)
    | some (.own _) => some (.sl i, env)
    | some (.owd _) => some (.sl i, env)
    | some (.owt _) => some (.sl i, env)
    | some (.scr _) => some (.sl i, env)
    | _ => none := rfl
theorem tst_some (o : Op) : tstO (some (o, env)) = (rdO env o).map fun d => (truth d, env) := rfl
theorem tst_none : tstO none = none := rfl
theorem tst_eq (r) : tstO r = r.bind fun p => (rdO p.2 p.1).map fun d => (truth d, p.2) := rfl

theorem ex_asg (i e) : ex Φ io ro (.asg i e) env = if i ∉ ro then (evF Φ io e env).map fun p => (.nx, p.2.set i (toSl p.1.2 p.1.1)) else none := rfl
theorem ex_asgs (is es) : ex Φ io ro (.asgs is es) env = if is.all (fun i => decide (i ∉ ro)) = true then (evsF Φ io es env).bind fun p => (asgAll is p.1 p.2).map fun e => (.nx, e) else none := rfl
theorem ex_asgT (l e) : ex Φ io ro (.asgT l e) env = (ev Φ io e env).bind fun p => match p.1 with
    | .tuple ds => (exT Φ io ro l ds p.2).map fun e => (.nx, e)
    | _ => none := rfl
theorem ex_put (i k e) : ex Φ io ro (.put i k e) env = (ev Φ io e env).bind fun p => if isOwnS p.2 i = true then (ev Φ io k p.2).bind fun q => (q.2[i]?).bind fun s => (putS s q.1 p.1).map fun s' => (.nx, q.2.set i s') else none := rfl
theorem ex_app (i e) : ex Φ io ro (.app i e) env = if isOwnL env i = true then (ev Φ io e env).bind fun p => match p.2[i]? with
      | some (.own ds) => if ds.length < lim then some (.nx, p.2.set i (.own (ds ++ [p.1]))) else none
      | _ => none
    else none := rfl
theorem ex_ext (i e) : ex Φ io ro (.ext i e) env = if isOwnL env i = true then (ev Φ io e env).bind fun p => match p.2[i]?, p.1 with
      | some (.own ds), .list es => if ds.length + es.length ≤ lim then some (.nx, p.2.set i (.own (ds ++ es))) else none
      | _, _ => none
    else none := rfl
theorem ex_exp (e) : ex Φ io ro (.exp e) env = (ev Φ io e env).map fun p => (.nx, p.2) := rfl
theorem ex_ifs (c a b) : ex Φ io ro (.ifs c a b) env = (tstO (opd c env (ev Φ io c env))).bind fun p => if p.1 = true then exs Φ io ro a p.2 else exs Φ io ro b p.2 := rfl
theorem ex_for (g it b) : ex Φ io ro (.for_ g it b) env = if gOk ro g = true then (evI Φ io it env).bind fun p => forS Φ io ro g b p.1 p.2 else none := by unfold forS; rfl
theorem ex_whl (c b) : ex Φ io ro (.whl c b) env = whlS Φ io ro c b 100000 env := by unfold whlS; rfl
theorem ex_ret (e) : ex Φ io ro (.ret e) env = exR Φ io ro e env := rfl
theorem ex_retN : ex Φ io ro .retN env = some (.rt .none false, env) := rfl
theorem ex_brk : ex Φ io ro .brk env = some (.bk, env) := rfl
theorem ex_cnt : ex Φ io ro .cnt env = some (.ct, env) := rfl
theorem ex_pas : ex Φ io ro .pas env = some (.nx, env) := rfl
/-- the rest behind a statement -/
def seqK (Φ : Fns) (io : Nat → List Pk) (ro : List Nat) (l : MSs) (p : Fl × En) : Option (Fl × En) := match p.1 with
    | .nx => exs Φ io ro l p.2
    | f => some (f, p.2)
theorem exs_nil : exs Φ io ro .nil env = some (.nx, env) := rfl
theorem exs_cons (s l) : exs Φ io ro (.cons s l) env = (ex Φ io ro s env).bind (seqK Φ io ro l) := rfl
theorem seqK_nx (l) : seqK Φ io ro l (.nx, env) = exs Φ io ro l env := rfl
theorem seqK_rt (l d fr) : seqK Φ io ro l (.rt d fr, env) = some (.rt d fr, env) := rfl
theorem seqK_bk (l) : seqK Φ io ro l (.bk, env) = some (.bk, env) := rfl
theorem seqK_ct (l) : seqK Φ io ro l (.ct, env) = some (.ct, env) := rfl
theorem exR_var (i : Nat) : exR Φ io ro (.var i) env = if i ∉ ro then match env[i]? with
      | some (.own ds) => some (.rt (.list ds) true, env.set i .un)
      | some (.owd ds) => some (.rt (.dict ds) true, env.set i .un)
      | _ => (evVar i env).map fun p => (.rt p.1 false, p.2)
    else (evVar i env).map fun p => (.rt p.1 false, p.2) := rfl
theorem exR_nv {e : ME} (h : isVarE e = false) : exR Φ io ro e env = (evF Φ io e env).map fun p => (.rt p.1.1 p.1.2, p.2) := by
  cases e <;> first | rfl | cases h
/-- an expression that is no call -/
def isCallE : ME → Bool
  | .call .. => true
  | .callT .. => true
  | .cst .. => false
  | .glo .. => false
  | .not_ .. => false
  | .and_ .. => false
  | .or_ .. => false
  | .ife .. => false
  | .cmp .. => false
  | .chn .. => false
  | .bin .. => false
  | .neg .. => false
  | .tup .. => false
  | .lst .. => false
  | .dct0 .. => false
  | .idx .. => false
  | .slc .. => false
  | .rev .. => false
  | .isi .. => false
  | .lzip .. => false
  | .rpr .. => false
  | .lset .. => false
  | .blt .. => false
  | .met .. => false
  | .comp .. => false
  | .var .. => false
theorem evF_nc {e : ME} (h : isCallE e = false) : evF Φ io e env = (ev Φ io e env).map fun p => ((p.1, frME e p.1), p.2) := by
  cases e <;> first | rfl | cases h
theorem evF_call (f l lk kw) : evF Φ io (.call f l lk kw) env = (evos Φ io l env).bind fun p => (evos Φ io lk p.2).bind fun q => (place kw (p.1 ++ q.1)).bind fun os => callM Φ io f os q.2 := rfl
theorem evF_callT (f g l) : evF Φ io (.callT f g l) env = (evos Φ io l env).bind fun p => (callM Φ io g p.1 p.2).bind fun q => callTM Φ io f q := rfl
theorem evsF_nil : evsF Φ io .nil env = some ([], env) := rfl
theorem evsF_cons (a l) : evsF Φ io (.cons a l) env = (evF Φ io a env).bind fun p => (evsF Φ io l p.2).map fun q => (p.1 :: q.1, q.2) := rfl
theorem opd_cst (d) (r) : opd (.cst d) env r = r.map fun p => (.dt p.1, p.2) := rfl
theorem exR_cst (d) : exR Φ io ro (.cst d) env = (evF Φ io (.cst d) env).map fun p => (.rt p.1.1 p.1.2, p.2) := rfl
theorem evF_cst (d) : evF Φ io (.cst d) env = (ev Φ io (.cst d) env).map fun p => ((p.1, frME (.cst d) p.1), p.2) := rfl
theorem opd_glo (x d) (r) : opd (.glo x d) env r = r.map fun p => (.dt p.1, p.2) := rfl
theorem exR_glo (x d) : exR Φ io ro (.glo x d) env = (evF Φ io (.glo x d) env).map fun p => (.rt p.1.1 p.1.2, p.2) := rfl
theorem evF_glo (x d) : evF Φ io (.glo x d) env = (ev Φ io (.glo x d) env).map fun p => ((p.1, frME (.glo x d) p.1), p.2) := rfl
theorem opd_not_ (a) (r) : opd (.not_ a) env r = r.map fun p => (.dt p.1, p.2) := rfl
theorem exR_not_ (a) : exR Φ io ro (.not_ a) env = (evF Φ io (.not_ a) env).map fun p => (.rt p.1.1 p.1.2, p.2) := rfl
theorem evF_not_ (a) : evF Φ io (.not_ a) env = (ev Φ io (.not_ a) env).map fun p => ((p.1, frME (.not_ a) p.1), p.2) := rfl
theorem opd_and_ (a b) (r) : opd (.and_ a b) env r = r.map fun p => (.dt p.1, p.2) := rfl
theorem exR_and_ (a b) : exR Φ io ro (.and_ a b) env = (evF Φ io (.and_ a b) env).map fun p => (.rt p.1.1 p.1.2, p.2) := rfl
theorem evF_and_ (a b) : evF Φ io (.and_ a b) env = (ev Φ io (.and_ a b) env).map fun p => ((p.1, frME (.and_ a b) p.1), p.2) := rfl
theorem opd_or_ (a b) (r) : opd (.or_ a b) env r = r.map fun p => (.dt p.1, p.2) := rfl
theorem exR_or_ (a b) : exR Φ io ro (.or_ a b) env = (evF Φ io (.or_ a b) env).map fun p => (.rt p.1.1 p.1.2, p.2) := rfl
theorem evF_or_ (a b) : evF Φ io (.or_ a b) env = (ev Φ io (.or_ a b) env).map fun p => ((p.1, frME (.or_ a b) p.1), p.2) := rfl
theorem opd_ife (c a b) (r) : opd (.ife c a b) env r = r.map fun p => (.dt p.1, p.2) := rfl
theorem exR_ife (c a b) : exR Φ io ro (.ife c a b) env = (evF Φ io (.ife c a b) env).map fun p => (.rt p.1.1 p.1.2, p.2) := rfl
theorem evF_ife (c a b) : evF Φ io (.ife c a b) env = (ev Φ io (.ife c a b) env).map fun p => ((p.1, frME (.ife c a b) p.1), p.2) := rfl
theorem opd_cmp (op a b) (r) : opd (.cmp op a b) env r = r.map fun p => (.dt p.1, p.2) := rfl
theorem exR_cmp (op a b) : exR Φ io ro (.cmp op a b) env = (evF Φ io (.cmp op a b) env).map fun p => (.rt p.1.1 p.1.2, p.2) := rfl
theorem evF_cmp (op a b) : evF Φ io (.cmp op a b) env = (ev Φ io (.cmp op a b) env).map fun p => ((p.1, frME (.cmp op a b) p.1), p.2) := rfl
theorem opd_chn (o1 o2 a b c) (r) : opd (.chn o1 o2 a b c) env r = r.map fun p => (.dt p.1, p.2) := rfl
theorem exR_chn (o1 o2 a b c) : exR Φ io ro (.chn o1 o2 a b c) env = (evF Φ io (.chn o1 o2 a b c) env).map fun p => (.rt p.1.1 p.1.2, p.2) := rfl
theorem evF_chn (o1 o2 a b c) : evF Φ io (.chn o1 o2 a b c) env = (ev Φ io (.chn o1 o2 a b c) env).map fun p => ((p.1, frME (.chn o1 o2 a b c) p.1), p.2) := rfl
theorem opd_bin (op a b) (r) : opd (.bin op a b) env r = r.map fun p => (.dt p.1, p.2) := rfl
theorem exR_bin (op a b) : exR Φ io ro (.bin op a b) env = (evF Φ io (.bin op a b) env).map fun p => (.rt p.1.1 p.1.2, p.2) := rfl
theorem evF_bin (op a b) : evF Φ io (.bin op a b) env = (ev Φ io (.bin op a b) env).map fun p => ((p.1, frME (.bin op a b) p.1), p.2) := rfl
theorem opd_neg (a) (r) : opd (.neg a) env r = r.map fun p => (.dt p.1, p.2) := rfl
theorem exR_neg (a) : exR Φ io ro (.neg a) env = (evF Φ io (.neg a) env).map fun p => (.rt p.1.1 p.1.2, p.2) := rfl
theorem evF_neg (a) : evF Φ io (.neg a) env = (ev Φ io (.neg a) env).map fun p => ((p.1, frME (.neg a) p.1), p.2) := rfl
theorem opd_tup (l) (r) : opd (.tup l) env r = r.map fun p => (.dt p.1, p.2) := rfl
theorem exR_tup (l) : exR Φ io ro (.tup l) env = (evF Φ io (.tup l) env).map fun p => (.rt p.1.1 p.1.2, p.2) := rfl
theorem evF_tup (l) : evF Φ io (.tup l) env = (ev Φ io (.tup l) env).map fun p => ((p.1, frME (.tup l) p.1), p.2) := rfl
theorem opd_lst (l) (r) : opd (.lst l) env r = r.map fun p => (.dt p.1, p.2) := rfl
theorem exR_lst (l) : exR Φ io ro (.lst l) env = (evF Φ io (.lst l) env).map fun p => (.rt p.1.1 p.1.2, p.2) := rfl
theorem evF_lst (l) : evF Φ io (.lst l) env = (ev Φ io (.lst l) env).map fun p => ((p.1, frME (.lst l) p.1), p.2) := rfl
theorem opd_dct0  (r) : opd (.dct0) env r = r.map fun p => (.dt p.1, p.2) := rfl
theorem exR_dct0  : exR Φ io ro (.dct0) env = (evF Φ io (.dct0) env).map fun p => (.rt p.1.1 p.1.2, p.2) := rfl
theorem evF_dct0  : evF Φ io (.dct0) env = (ev Φ io (.dct0) env).map fun p => ((p.1, frME (.dct0) p.1), p.2) := rfl
theorem opd_idx (a i) (r) : opd (.idx a i) env r = r.map fun p => (.dt p.1, p.2) := rfl
theorem exR_idx (a i) : exR Φ io ro (.idx a i) env = (evF Φ io (.idx a i) env).map fun p => (.rt p.1.1 p.1.2, p.2) := rfl
theorem evF_idx (a i) : evF Φ io (.idx a i) env = (ev Φ io (.idx a i) env).map fun p => ((p.1, frME (.idx a i) p.1), p.2) := rfl
theorem opd_slc (a lo hi) (r) : opd (.slc a lo hi) env r = r.map fun p => (.dt p.1, p.2) := rfl
theorem exR_slc (a lo hi) : exR Φ io ro (.slc a lo hi) env = (evF Φ io (.slc a lo hi) env).map fun p => (.rt p.1.1 p.1.2, p.2) := rfl
theorem evF_slc (a lo hi) : evF Φ io (.slc a lo hi) env = (ev Φ io (.slc a lo hi) env).map fun p => ((p.1, frME (.slc a lo hi) p.1), p.2) := rfl
theorem opd_rev (a) (r) : opd (.rev a) env r = r.map fun p => (.dt p.1, p.2) := rfl
theorem exR_rev (a) : exR Φ io ro (.rev a) env = (evF Φ io (.rev a) env).map fun p => (.rt p.1.1 p.1.2, p.2) := rfl
theorem evF_rev (a) : evF Φ io (.rev a) env = (ev Φ io (.rev a) env).map fun p => ((p.1, frME (.rev a) p.1), p.2) := rfl
theorem opd_isi (a T) (r) : opd (.isi a T) env r = r.map fun p => (.dt p.1, p.2) := rfl
theorem exR_isi (a T) : exR Φ io ro (.isi a T) env = (evF Φ io (.isi a T) env).map fun p => (.rt p.1.1 p.1.2, p.2) := rfl
theorem evF_isi (a T) : evF Φ io (.isi a T) env = (ev Φ io (.isi a T) env).map fun p => ((p.1, frME (.isi a T) p.1), p.2) := rfl
theorem opd_lzip (a b) (r) : opd (.lzip a b) env r = r.map fun p => (.dt p.1, p.2) := rfl
theorem exR_lzip (a b) : exR Φ io ro (.lzip a b) env = (evF Φ io (.lzip a b) env).map fun p => (.rt p.1.1 p.1.2, p.2) := rfl
theorem evF_lzip (a b) : evF Φ io (.lzip a b) env = (ev Φ io (.lzip a b) env).map fun p => ((p.1, frME (.lzip a b) p.1), p.2) := rfl
theorem opd_rpr (a) (r) : opd (.rpr a) env r = r.map fun p => (.dt p.1, p.2) := rfl
theorem exR_rpr (a) : exR Φ io ro (.rpr a) env = (evF Φ io (.rpr a) env).map fun p => (.rt p.1.1 p.1.2, p.2) := rfl
theorem evF_rpr (a) : evF Φ io (.rpr a) env = (ev Φ io (.rpr a) env).map fun p => ((p.1, frME (.rpr a) p.1), p.2) := rfl
theorem opd_lset (a) (r) : opd (.lset a) env r = r.map fun p => (.dt p.1, p.2) := rfl
theorem exR_lset (a) : exR Φ io ro (.lset a) env = (evF Φ io (.lset a) env).map fun p => (.rt p.1.1 p.1.2, p.2) := rfl
theorem evF_lset (a) : evF Φ io (.lset a) env = (ev Φ io (.lset a) env).map fun p => ((p.1, frME (.lset a) p.1), p.2) := rfl
theorem opd_blt (f l) (r) : opd (.blt f l) env r = r.map fun p => (.dt p.1, p.2) := rfl
theorem exR_blt (f l) : exR Φ io ro (.blt f l) env = (evF Φ io (.blt f l) env).map fun p => (.rt p.1.1 p.1.2, p.2) := rfl
theorem evF_blt (f l) : evF Φ io (.blt f l) env = (ev Φ io (.blt f l) env).map fun p => ((p.1, frME (.blt f l) p.1), p.2) := rfl
theorem opd_met (m a l) (r) : opd (.met m a l) env r = r.map fun p => (.dt p.1, p.2) := rfl
theorem exR_met (m a l) : exR Φ io ro (.met m a l) env = (evF Φ io (.met m a l) env).map fun p => (.rt p.1.1 p.1.2, p.2) := rfl
theorem evF_met (m a l) : evF Φ io (.met m a l) env = (ev Φ io (.met m a l) env).map fun p => ((p.1, frME (.met m a l) p.1), p.2) := rfl
theorem opd_comp (vs g it c e) (r) : opd (.comp vs g it c e) env r = r.map fun p => (.dt p.1, p.2) := rfl
theorem exR_comp (vs g it c e) : exR Φ io ro (.comp vs g it c e) env = (evF Φ io (.comp vs g it c e) env).map fun p => (.rt p.1.1 p.1.2, p.2) := rfl
theorem evF_comp (vs g it c e) : evF Φ io (.comp vs g it c e) env = (ev Φ io (.comp vs g it c e) env).map fun p => ((p.1, frME (.comp vs g it c e) p.1), p.2) := rfl
theorem opd_call (f l lk kw) (r) : opd (.call f l lk kw) env r = r.map fun p => (.dt p.1, p.2) := rfl
theorem exR_call (f l lk kw) : exR Φ io ro (.call f l lk kw) env = (evF Φ io (.call f l lk kw) env).map fun p => (.rt p.1.1 p.1.2, p.2) := rfl
theorem opd_callT (f g l) (r) : opd (.callT f g l) env r = r.map fun p => (.dt p.1, p.2) := rfl
theorem exR_callT (f g l) : exR Φ io ro (.callT f g l) env = (evF Φ io (.callT f g l) env).map fun p => (.rt p.1.1 p.1.2, p.2) := rfl
theorem evF_var (i) : evF Φ io (.var i) env = (ev Φ io (.var i) env).map fun p => ((p.1, frME (.var i) p.1), p.2) := rfl
end
end Mi

set_option maxHeartbeats 2000000
/-! W2: calls, loops, comprehensions. -/
namespace Mi
open PySem PySem.Spec PyProof.Rows L2
theorem run_code {T : List FE} {n i : Nat} {fi : FI} (h : T[i]? = some (.code fi)) (ds : List PyData) : run T (n + 1) i ds = runD (run T n) (ioOf T) fi ds := by
  show (T[i]?).bind _ = _
  rw [h]; rfl
theorem run_hand {T : List FE} {n i : Nat} {io : List Pk} {g : Fns → (Nat → List Pk) → List PyData → Option ((PyData × Bool) × List (List PyData))} (h : T[i]? = some (.hand io g)) (ds : List PyData) : run T (n + 1) i ds = g (run T n) (ioOf T) ds := by
  show (T[i]?).bind _ = _
  rw [h]; rfl
theorem callM_eq {Φ : Fns} {io : Nat → List Pk} {f : Nat} {fl : List Pk} (h : io f = fl) (os : List Op) (env : En) : callM Φ io f os env = (rdSs env os).bind fun ds => (ioSlots fl os).bind fun is =>
    if (is.all (isOwnL env)) = true ∧ ((scrs fl os).all (isScr env)) = true ∧ ((lent fl os).all fun i => !isScr env i) = true ∧ is.Nodup ∧ (∀ i ∈ is, i ∉ lent fl os) then
      (Φ f ds).bind fun r => if r.2.length = is.length then
        some (r.1, if (noMutR r.1 && r.2.all noMutAll) = true then setOuts is r.2 env else setOuts is r.2 (frzAt (lent fl os) env)) else none
    else none := by rw [← h]; rfl
section
variable {Φ : Fns} {io : Nat → List Pk} {ro : List Nat} {g : MG}
/-- a loop by what stands at each turn -/
theorem ok_for {b : MSs} {xs : List PyData} {env : En} {Q : Fl × En → Prop} (I : Nat → En → Prop) (h0 : I 0 env)
    (hs : ∀ k x env, xs[k]? = some x → I k env → Ok (bindT g x env) fun e1 => Ok (exs Φ io ro b e1) fun p => match p.1 with
      | .nx => I (k + 1) p.2
      | .ct => I (k + 1) p.2
      | .bk => Q (.nx, p.2)
      | .rt d fr => Q (.rt d fr, p.2))
    (hq : ∀ env, I xs.length env → Q (.nx, env)) : Ok (forS Φ io ro g b xs env) Q := by
  unfold forS
  induction xs generalizing env I with
  | nil => exact ok_some.mpr (hq env h0)
  | cons x xs ih =>
    obtain ⟨e1, h1, h2⟩ := ok_iff.mp (hs 0 x env rfl h0)
    obtain ⟨p, h2, h3⟩ := ok_iff.mp h2
    have ih' := fun (h : I 1 p.2) => ih (env := p.2) (fun k => I (k + 1)) h (fun k y e hk hi => hs (k + 1) y e (by simpa using hk) hi) (fun e he => hq e he)
    show Ok ((bindT g x env).bind fun env1 => (exs Φ io ro b env1).bind fun p => match p.1 with
      | .nx => forL g _ xs p.2
      | .ct => forL g _ xs p.2
      | .bk => some (.nx, p.2)
      | .rt d fr => some (.rt d fr, p.2)) Q
    rw [ok_bind]
    refine ok_of h1 ?_
    rw [ok_bind]
    refine ok_of h2 ?_
    rcases p with ⟨fl, e2⟩
    cases fl with
    | nx => exact ih' h3
    | ct => exact ih' h3
    | bk => exact ok_some.mpr h3
    | rt d fr => exact ok_some.mpr h3
/-- a comprehension that changes nothing but its own names -/
theorem wipe_len : ∀ (env : En) (vs : List Nat), (wipeE env vs).length = env.length
  | env, [] => rfl
  | env, v :: vs => by rw [wipeE, List.length_set, wipe_len env vs]
theorem wipe_get : ∀ (env : En) (vs : List Nat) (i : Nat), (wipeE env vs)[i]? = if i ∈ vs then (env[i]?).map fun _ => Sl.un else env[i]?
  | env, [], i => by simp [wipeE]
  | env, v :: vs, i => by
    rw [wipeE]
    by_cases h : v = i
    · subst h
      by_cases hl : v < env.length
      · rw [List.getElem?_set_self (by rw [wipe_len]; exact hl)]
        simp [List.getElem?_eq_getElem hl]
      · rw [List.getElem?_eq_none (by rw [List.length_set, wipe_len]; omega)]
        simp [List.getElem?_eq_none (show env.length ≤ v by omega)]
    · rw [List.getElem?_set_ne h, wipe_get env vs i]
      simp [fun e => h (Eq.symm e)]
      have : (i = v) = False := by simp; exact fun e => h e.symm
      simp [this]
theorem back_get : ∀ (env0 env : En) (vs : List Nat) (i : Nat), env.length = env0.length → (backE env0 env vs)[i]? = if i ∈ vs then env0[i]? else env[i]?
  | env0, env, [], i, _ => by simp [backE]
  | env0, env, v :: vs, i, hl => by
    have hl2 : ∀ (env : En) (vs : List Nat), (backE env0 env vs).length = env.length := fun env vs => by
      induction vs with
      | nil => rfl
      | cons v vs ih => rw [backE, List.length_set, ih]
    rw [backE]
    by_cases h : v = i
    · subst h
      by_cases hv : v < env.length
      · rw [List.getElem?_set_self (by rw [hl2]; exact hv)]
        simp [List.getElem?_eq_getElem (show v < env0.length by omega)]
      · rw [List.getElem?_eq_none (by rw [List.length_set, hl2]; omega)]
        simp [List.getElem?_eq_none (show env0.length ≤ v by omega)]
    · rw [List.getElem?_set_ne h, back_get env0 env vs i hl]
      have : (i = v) = False := by simp; exact fun e => h e.symm
      simp [this]
theorem back_wipe {env0 env : En} {vs : List Nat} (h : wipeE env vs = wipeE env0 vs) : backE env0 env vs = env0 := by
  have hl : env.length = env0.length := by rw [← wipe_len env vs, h, wipe_len]
  apply List.ext_getElem?
  intro i
  rw [back_get _ _ _ _ hl]
  by_cases hi : i ∈ vs
  · simp [hi]
  · have e := congrArg (fun (l : En) => l[i]?) h
    simp only [wipe_get] at e
    simp [hi] at e ⊢
    exact e
theorem wipe_wipeW (env : En) (vs : List Nat) : wipeE (wipeE env vs) vs = wipeE env vs := by
  apply List.ext_getElem?
  intro i
  rw [wipe_get, wipe_get]
  by_cases hi : i ∈ vs
  · simp only [hi, if_true, Option.map_map]; cases env[i]? <;> rfl
  · simp [hi]
/-- .. by what each item gives -/
theorem compS_eq {vs : List Nat} {c : MO} {e : ME} {xs : List PyData} {env : En} (f : PyData → Option PyData) (hl : xs.length ≤ lim)
    (h : ∀ x ∈ xs, ∃ env1 env2 t, bindT g x (wipeE env vs) = some env1 ∧ evC Φ io c env1 = some (t, env2) ∧ (t = true → ∃ d env3, ev Φ io e env2 = some (d, env3) ∧ f x = some d ∧ wipeE env3 vs = wipeE env vs) ∧ (t = false → f x = none ∧ wipeE env2 vs = wipeE env vs)) :
    compS Φ io vs g c e xs env = some (.list (xs.filterMap f), env) := by
  have main : ∀ (xs : List PyData) (acc : List PyData) (en : En), wipeE en vs = wipeE env vs → acc.length + xs.length ≤ lim → (∀ x ∈ xs, ∃ env1 env2 t, bindT g x (wipeE env vs) = some env1 ∧ evC Φ io c env1 = some (t, env2) ∧ (t = true → ∃ d env3, ev Φ io e env2 = some (d, env3) ∧ f x = some d ∧ wipeE env3 vs = wipeE env vs) ∧ (t = false → f x = none ∧ wipeE env2 vs = wipeE env vs)) →
      ∃ en', compL vs g (fun en => evC Φ io c en) (fun en => ev Φ io e en) xs acc en = some (acc ++ xs.filterMap f, en') ∧ wipeE en' vs = wipeE env vs := by
    intro xs
    induction xs with
    | nil => exact fun acc en hw _ _ => ⟨en, by simp [compL], hw⟩
    | cons x xs ih =>
      intro acc en hw hl hx
      obtain ⟨env1, env2, t, h1, h2, h3, h4⟩ := hx x List.mem_cons_self
      have hx' := fun y hy => hx y (List.mem_cons_of_mem _ hy)
      rw [List.length_cons] at hl
      cases t with
      | true =>
        obtain ⟨d, env3, h5, h6, h7⟩ := h3 rfl
        obtain ⟨en', r1, r2⟩ := ih (acc ++ [d]) env3 h7 (by rw [List.length_append, List.length_singleton]; omega) hx'
        refine ⟨en', ?_, r2⟩
        simp only [compL, hw, h1, h2, h5, Option.bind_some, if_true]
        rw [if_pos (by omega), r1, List.filterMap_cons, h6]
        simp
      | false =>
        obtain ⟨h6, h7⟩ := h4 rfl
        obtain ⟨en', r1, r2⟩ := ih acc env2 h7 (by omega) hx'
        refine ⟨en', ?_, r2⟩
        simp only [compL, hw, h1, h2, Option.bind_some]
        rw [if_neg (by simp), r1, List.filterMap_cons, h6]
  obtain ⟨en', h1, h2⟩ := main xs [] env rfl (by simpa using hl) h
  unfold compS
  rw [h1]
  simp only [Option.map_some, List.nil_append, back_wipe h2]
theorem fmap_some {α β : Type} (f : α → β) : ∀ xs : List α, xs.filterMap (fun x => some (f x)) = xs.map f
  | [] => rfl
  | x :: xs => by rw [List.filterMap_cons, fmap_some f xs]; rfl
/-- .. without a condition: a map -/
theorem compS_map {vs : List Nat} {e : ME} {xs : List PyData} {env : En} (f : PyData → PyData) (hl : xs.length ≤ lim)
    (h : ∀ x ∈ xs, ∃ env1 env3, bindT g x (wipeE env vs) = some env1 ∧ ev Φ io e env1 = some (f x, env3) ∧ wipeE env3 vs = wipeE env vs) :
    compS Φ io vs g .no e xs env = some (.list (xs.map f), env) := by
  rw [compS_eq (f := fun x => some (f x)) hl fun x hx => ?_, fmap_some]
  · obtain ⟨env1, env3, h1, h2, h3⟩ := h x hx
    exact ⟨env1, env1, true, h1, rfl, fun _ => ⟨f x, env3, h2, rfl, h3⟩, fun z => nomatch z⟩
/-- .. by what stands at each turn (a comprehension that changes a slot) -/
theorem ok_comp {vs : List Nat} {e : ME} {xs : List PyData} {env : En} {Q : PyData × En → Prop} (I : List PyData → En → Prop) (hl : xs.length ≤ lim) (h0 : I [] env)
    (hs : ∀ acc x en, xs[acc.length]? = some x → I acc en → Ok (bindT g x (wipeE en vs)) fun e1 => Ok (ev Φ io e e1) fun p => I (acc ++ [p.1]) p.2)
    (hq : ∀ acc en, acc.length = xs.length → I acc en → Q (.list acc, backE env en vs)) : Ok (compS Φ io vs g .no e xs env) Q := by
  have main : ∀ (ys : List PyData) (acc : List PyData) (en : En), xs = xs.take acc.length ++ ys → acc.length ≤ xs.length → I acc en → ∃ acc' en', compL vs g (fun en => evC Φ io .no en) (fun en => ev Φ io e en) ys acc en = some (acc', en') ∧ acc'.length = xs.length ∧ I acc' en' := by
    intro ys
    induction ys with
    | nil =>
      intro acc en hx hle hi
      have : xs.length = acc.length := by
        have := congrArg List.length hx
        rw [List.append_nil, List.length_take] at this
        omega
      exact ⟨acc, en, rfl, this.symm, hi⟩
    | cons y ys ih =>
      intro acc en hx hle hi
      have hy : xs[acc.length]? = some y := by
        have hlt : (xs.take acc.length).length = acc.length := by rw [List.length_take]; omega
        rw [hx, List.getElem?_append_right (by omega)]
        simp [hlt]
      have hlen : acc.length < xs.length := by
        obtain ⟨q, _⟩ := List.getElem?_eq_some_iff.mp hy; exact q
      obtain ⟨e1, h1, h2⟩ := ok_iff.mp (hs acc y en hy hi)
      obtain ⟨p, h2, h3⟩ := ok_iff.mp h2
      obtain ⟨acc', en', r1, r2, r3⟩ := ih (acc ++ [p.1]) p.2 (by
        rw [List.length_append, List.length_singleton]
        have h5 : xs.take (acc.length + 1) = xs.take acc.length ++ [y] := by
          rw [List.take_add_one, hy]; rfl
        rw [h5, List.append_assoc, List.singleton_append]; exact hx) (by rw [List.length_append, List.length_singleton]; omega) h3
      refine ⟨acc', en', ?_, r2, r3⟩
      simp only [compL, h1, h2, Option.bind_some, show ∀ en, evC Φ io .no en = some (true, en) from fun _ => rfl, if_true] at r1 ⊢
      rw [if_pos (by omega), r1]
  obtain ⟨acc', en', h1, h2, h3⟩ := main xs [] env (by simp) (by simp) h0
  unfold compS
  rw [h1]
  exact ok_some.mpr (hq acc' en' h2 h3)
end
end Mi

set_option maxHeartbeats 2000000
/-! W3: the evaluator turned about: what is asked of a run, told backwards, one rule at the head at a time. -/
namespace Mi
open PySem PySem.Spec PyProof.Rows L2

/-- A where b, B otherwise -/
def wite (b : Bool) (A B : Prop) : Prop := match b with
  | true => A
  | false => B
theorem wite_true {A B : Prop} : wite true A B = A := rfl
theorem wite_false {A B : Prop} : wite false A B = B := rfl
theorem wite_not {b : Bool} {A B : Prop} : wite (!b) A B = wite b B A := by cases b <;> rfl
theorem wite_bool {b : Bool} {A B : Prop} : wite b A B = ((b = true → A) ∧ (b = false → B)) := by cases b <;> simp [wite]
theorem wite_dec {P : Prop} [Decidable P] {A B : Prop} : wite (decide P) A B = ((P → A) ∧ (¬P → B)) := by
  by_cases h : P <;> simp [wite, h]
theorem wite_ndec {P : Prop} [Decidable P] {A B : Prop} : wite (!decide P) A B = ((P → B) ∧ (¬P → A)) := by
  by_cases h : P <;> simp [wite, h]
theorem wite_if {b : Bool} {A B : Prop} : wite b A B ↔ if b = true then A else B := by cases b <;> simp [wite]

/-! ### slots -/
def wset : Nat → Sl → En → (En → Prop) → Prop
  | 0, s, _ :: r, K => K (s :: r)
  | i + 1, s, a :: r, K => wset i s r fun r' => K (a :: r')
  | _, _, [], _ => False
theorem wset_z {s a r K} : wset 0 s (a :: r) K = K (s :: r) := rfl
theorem wset_s {i s a r K} : wset (i + 1) s (a :: r) K = wset i s r fun r' => K (a :: r') := rfl
theorem wset_ok : ∀ {i : Nat} {s : Sl} {env : En} {K : En → Prop}, wset i s env K → i < env.length ∧ K (env.set i s)
  | 0, s, a :: r, K, h => ⟨by simp, h⟩
  | i + 1, s, a :: r, K, h => by
    have h : wset i s r fun r' => K (a :: r') := h
    have := wset_ok h
    exact ⟨by simp [this.1], by simpa using this.2⟩
  | 0, _, [], _, h => h.elim
  | _ + 1, _, [], _, h => h.elim
def wsl : Nat → En → (Sl → Prop) → Prop
  | 0, s :: _, K => K s
  | i + 1, _ :: r, K => wsl i r K
  | _, [], _ => False
theorem wsl_z {s r K} : wsl 0 (s :: r) K = K s := rfl
theorem wsl_s {i s r K} : wsl (i + 1) (s :: r) K = wsl i r K := rfl
theorem wsl_ok : ∀ {i : Nat} {env : En} {K : Sl → Prop}, wsl i env K → ∃ s, env[i]? = some s ∧ K s
  | 0, s :: _, K, h => ⟨s, rfl, h⟩
  | i + 1, s :: r, K, h => by
    have h : wsl i r K := h
    simpa using wsl_ok h
  | 0, [], _, h => h.elim
  | _ + 1, [], _, h => h.elim
/-- a name's value; what it holds is frozen -/
def wvs : Sl → Nat → En → (PyData → En → Prop) → Prop
  | .val d, _, env, Q => Q d env
  | .own ds, i, env, Q => wset i (.val (.list ds)) env (Q (.list ds))
  | .owd ds, i, env, Q => wset i (.val (.dict ds)) env (Q (.dict ds))
  | .un, _, _, _ => False
  | .owt _, _, _, _ => False
  | .scr _, _, _, _ => False
theorem wvs_val {d i env Q} : wvs (.val d) i env Q = Q d env := rfl
theorem wvs_own {ds i env Q} : wvs (.own ds) i env Q = wset i (.val (.list ds)) env (Q (.list ds)) := rfl
theorem wvs_owd {ds i env Q} : wvs (.owd ds) i env Q = wset i (.val (.dict ds)) env (Q (.dict ds)) := rfl
def wvar (i : Nat) (env : En) (Q : PyData → En → Prop) : Prop := wsl i env fun s => wvs s i env Q
theorem wvar_eq {i env Q} : wvar i env Q = wsl i env fun s => wvs s i env Q := rfl
theorem wvar_ok {i : Nat} {env : En} {Q : PyData → En → Prop} (h : wvar i env Q) : Ok (evVar i env) fun p => Q p.1 p.2 := by
  obtain ⟨s, e, h⟩ := wsl_ok h
  unfold evVar
  rw [e]
  cases s with
  | val d => exact ok_some.mpr h
  | own ds => exact ok_some.mpr (wset_ok h).2
  | owd ds => exact ok_some.mpr (wset_ok h).2
  | un => exact h.elim
  | owt ds => exact h.elim
  | scr ds => exact h.elim
def wos : Sl → Nat → En → (Op → En → Prop) → Prop
  | .val d, _, env, Q => Q (.dt d) env
  | .own _, i, env, Q => Q (.sl i) env
  | .owd _, i, env, Q => Q (.sl i) env
  | .owt _, i, env, Q => Q (.sl i) env
  | .scr _, i, env, Q => Q (.sl i) env
  | .un, _, _, _ => False
theorem wos_val {d i env Q} : wos (.val d) i env Q = Q (.dt d) env := rfl
theorem wos_own {d i env Q} : wos (.own d) i env Q = Q (.sl i) env := rfl
theorem wos_owd {d i env Q} : wos (.owd d) i env Q = Q (.sl i) env := rfl
theorem wos_owt {d i env Q} : wos (.owt d) i env Q = Q (.sl i) env := rfl
theorem wos_scr {d i env Q} : wos (.scr d) i env Q = Q (.sl i) env := rfl
def wopd (a : ME) (env : En) (r : (PyData → En → Prop) → Prop) (Q : Op → En → Prop) : Prop := match a with
  | .var i => wsl i env fun s => wos s i env Q
  | .cst d => Q (.dt d) env
  | .glo _ d => Q (.dt d) env
  | _ => r fun d e => Q (.dt d) e
theorem wopd_ok {a : ME} {env : En} {r : (PyData → En → Prop) → Prop} {Q : Op → En → Prop} {v : Option (PyData × En)} (hv : ∀ Q, r Q → Ok v fun p => Q p.1 p.2) (hc : ∀ d, a = .cst d → v = some (d, env)) (hg : ∀ x d, a = .glo x d → v = some (d, env)) (h : wopd a env r Q) : Ok (opd a env v) fun p => Q p.1 p.2 := by
  have gen : (r fun d e => Q (.dt d) e) → Ok (v.map fun p => ((.dt p.1 : Op), p.2)) fun p => Q p.1 p.2 := fun h => ok_map.mpr (hv _ h)
  cases a with
  | var i =>
    obtain ⟨s, e, h⟩ := wsl_ok (show wsl i env _ from h)
    rw [opd_var, e]
    cases s with
    | un => exact h.elim
    | val d => exact ok_some.mpr h
    | own d => exact ok_some.mpr h
    | owd d => exact ok_some.mpr h
    | owt d => exact ok_some.mpr h
    | scr d => exact ok_some.mpr h
  | cst d => rw [hc d rfl]; exact ok_some.mpr h
  | glo x d => rw [hg x d rfl]; exact ok_some.mpr h
  | _ => exact gen h
def wrs : Sl → (PyData → Prop) → Prop
  | .val d, K => K d
  | .own ds, K => K (.list ds)
  | .owd ds, K => K (.dict ds)
  | .un, _ => False
  | .owt _, _ => False
  | .scr _, _ => False
theorem wrs_val {d K} : wrs (.val d) K = K d := rfl
theorem wrs_own {d K} : wrs (.own d) K = K (.list d) := rfl
theorem wrs_owd {d K} : wrs (.owd d) K = K (.dict d) := rfl
def wrd : Op → En → (PyData → Prop) → Prop
  | .dt d, _, K => K d
  | .sl i, env, K => wsl i env fun s => wrs s K
theorem wrd_dt {d env K} : wrd (.dt d) env K = K d := rfl
theorem wrd_sl {i env K} : wrd (.sl i) env K = wsl i env fun s => wrs s K := rfl
theorem wrd_ok {o : Op} {env : En} {K : PyData → Prop} (h : wrd o env K) : Ok (rdO env o) K := by
  cases o with
  | dt d => exact ok_some.mpr h
  | sl i =>
    obtain ⟨s, e, h⟩ := wsl_ok (show wsl i env _ from h)
    show Ok ((env[i]?).bind slD) K
    rw [e]
    cases s with
    | val d => exact ok_some.mpr h
    | own d => exact ok_some.mpr h
    | owd d => exact ok_some.mpr h
    | _ => exact h.elim
/-- .. the script's too -/
def wrsS : Sl → (PyData → Prop) → Prop
  | .val d, K => K d
  | .own ds, K => K (.list ds)
  | .owd ds, K => K (.dict ds)
  | .scr ds, K => K (.list ds)
  | .un, _ => False
  | .owt _, _ => False
theorem wrsS_val {d K} : wrsS (.val d) K = K d := rfl
theorem wrsS_own {d K} : wrsS (.own d) K = K (.list d) := rfl
theorem wrsS_owd {d K} : wrsS (.owd d) K = K (.dict d) := rfl
theorem wrsS_scr {d K} : wrsS (.scr d) K = K (.list d) := rfl
def wrdS : Op → En → (PyData → Prop) → Prop
  | .dt d, _, K => K d
  | .sl i, env, K => wsl i env fun s => wrsS s K
theorem wrdS_dt {d env K} : wrdS (.dt d) env K = K d := rfl
theorem wrdS_sl {i env K} : wrdS (.sl i) env K = wsl i env fun s => wrsS s K := rfl
theorem wrdS_ok {o : Op} {env : En} {K : PyData → Prop} (h : wrdS o env K) : Ok (rdS env o) K := by
  cases o with
  | dt d => exact ok_some.mpr h
  | sl i =>
    obtain ⟨s, e, h⟩ := wsl_ok (show wsl i env _ from h)
    show Ok ((env[i]?).bind slS) K
    rw [e]
    cases s with
    | val d => exact ok_some.mpr h
    | own d => exact ok_some.mpr h
    | owd d => exact ok_some.mpr h
    | scr d => exact ok_some.mpr h
    | _ => exact h.elim
def wrds : List Op → En → (List PyData → Prop) → Prop
  | [], _, K => K []
  | o :: os, env, K => wrd o env fun d => wrds os env fun ds => K (d :: ds)
theorem wrds_nil {env K} : wrds [] env K = K [] := rfl
theorem wrds_cons {o os env K} : wrds (o :: os) env K = wrd o env fun d => wrds os env fun ds => K (d :: ds) := rfl
theorem wrds_ok : ∀ {os : List Op} {env : En} {K : List PyData → Prop}, wrds os env K → Ok (rdOs env os) K
  | [], _, _, h => ok_some.mpr h
  | o :: os, env, K, h => by
    show Ok ((rdO env o).bind fun d => (rdOs env os).map (d :: ·)) K
    rw [ok_bind]
    exact (wrd_ok h).mono fun d h => ok_map.mpr (wrds_ok h)
def wrdsS : List Op → En → (List PyData → Prop) → Prop
  | [], _, K => K []
  | o :: os, env, K => wrdS o env fun d => wrdsS os env fun ds => K (d :: ds)
theorem wrdsS_nil {env K} : wrdsS [] env K = K [] := rfl
theorem wrdsS_cons {o os env K} : wrdsS (o :: os) env K = wrdS o env fun d => wrdsS os env fun ds => K (d :: ds) := rfl
theorem wrdsS_ok : ∀ {os : List Op} {env : En} {K : List PyData → Prop}, wrdsS os env K → Ok (rdSs env os) K
  | [], _, _, h => ok_some.mpr h
  | o :: os, env, K, h => by
    show Ok ((rdS env o).bind fun d => (rdSs env os).map (d :: ·)) K
    rw [ok_bind]
    exact (wrdS_ok h).mono fun d h => ok_map.mpr (wrdsS_ok h)
/-- the truth of a value -/
def wtr : PyData → (Bool → Prop) → Prop
  | .bool b, K => K b
  | .none, K => K false
  | .int i, K => K (i != 0)
  | .str s, K => K (!(s.length == 0))
  | .list ds, K => K (!ds.isEmpty)
  | .tuple ds, K => K (!ds.isEmpty)
  | .dict ds, K => K (!ds.isEmpty)
theorem wtr_bool {b K} : wtr (.bool b) K = K b := rfl
theorem wtr_none {K} : wtr .none K = K false := rfl
theorem wtr_int {i K} : wtr (.int i) K = K (i != 0) := rfl
theorem wtr_str {i K} : wtr (.str i) K = K (!(i.length == 0)) := rfl
theorem wtr_list {i K} : wtr (.list i) K = K (!i.isEmpty) := rfl
theorem wtr_tuple {i K} : wtr (.tuple i) K = K (!i.isEmpty) := rfl
theorem wtr_dict {i K} : wtr (.dict i) K = K (!i.isEmpty) := rfl
theorem wtr_ok {d : PyData} {K : Bool → Prop} : wtr d K ↔ K (truth d) := by cases d <;> rfl

/-! ### calls -/
def wIo : Sl → (List PyData → Prop) → Prop
  | .own ds, K => K ds
  | .val _, _ => False
  | .owd _, _ => False
  | .un, _ => False
  | .owt _, _ => False
  | .scr _, _ => False
theorem wIo_own {ds K} : wIo (.own ds) K = K ds := rfl
def wSc : Sl → (List PyData → Prop) → Prop
  | .scr ds, K => K ds
  | .val _, _ => False
  | .owd _, _ => False
  | .un, _ => False
  | .owt _, _ => False
  | .own _, _ => False
theorem wSc_scr {ds K} : wSc (.scr ds) K = K ds := rfl
def warg : List Pk → List Op → En → (List PyData → List Nat → List Nat → Prop) → Prop
  | [], [], _, K => K [] [] []
  | .v :: fl, .dt d :: os, env, K => warg fl os env fun ds is ls => K (d :: ds) is ls
  | .v :: fl, .sl i :: os, env, K => wsl i env fun s => wrs s fun d => warg fl os env fun ds is ls => K (d :: ds) is (i :: ls)
  | .io :: fl, .sl i :: os, env, K => wsl i env fun s => wIo s fun d => warg fl os env fun ds is ls => K (.list d :: ds) (i :: is) ls
  | .sc :: fl, .sl i :: os, env, K => wsl i env fun s => wSc s fun d => warg fl os env fun ds is ls => K (.list d :: ds) is ls
  | .io :: _, .dt _ :: _, _, _ => False
  | .sc :: _, .dt _ :: _, _, _ => False
  | [], _ :: _, _, _ => False
  | _ :: _, [], _, _ => False
theorem warg_nil {env K} : warg [] [] env K = K [] [] [] := rfl
theorem warg_dt {fl d os env K} : warg (.v :: fl) (.dt d :: os) env K = warg fl os env fun ds is ls => K (d :: ds) is ls := rfl
theorem warg_sl {fl i os env K} : warg (.v :: fl) (.sl i :: os) env K = wsl i env fun s => wrs s fun d => warg fl os env fun ds is ls => K (d :: ds) is (i :: ls) := rfl
theorem warg_io {fl i os env K} : warg (.io :: fl) (.sl i :: os) env K = wsl i env fun s => wIo s fun d => warg fl os env fun ds is ls => K (.list d :: ds) (i :: is) ls := rfl
theorem warg_sc {fl i os env K} : warg (.sc :: fl) (.sl i :: os) env K = wsl i env fun s => wSc s fun d => warg fl os env fun ds is ls => K (.list d :: ds) is ls := rfl
theorem warg_ok : ∀ {fl : List Pk} {os : List Op} {env : En} {K : List PyData → List Nat → List Nat → Prop}, warg fl os env K → ∃ ds is, rdSs env os = some ds ∧ ioSlots fl os = some is ∧ is.all (isOwnL env) = true ∧ (scrs fl os).all (isScr env) = true ∧ ((lent fl os).all fun i => !isScr env i) = true ∧ K ds is (lent fl os)
  | [], [], _, _, h => ⟨[], [], rfl, rfl, rfl, rfl, rfl, h⟩
  | .v :: fl, .dt d :: os, env, K, h => by
    obtain ⟨ds, is, h1, h2, h3, h4, h5, h6⟩ := warg_ok (show warg fl os env _ from h)
    exact ⟨d :: ds, is, by simp [rdSs, rdS, h1], by simpa [ioSlots] using h2, h3, by simpa [scrs] using h4, by simpa [lent] using h5, h6⟩
  | .v :: fl, .sl i :: os, env, K, h => by
    obtain ⟨s, e, h⟩ := wsl_ok (show wsl i env _ from h)
    have go : ∀ d, slS s = some d → (∀ ds, s ≠ .scr ds) → warg fl os env (fun ds is ls => K (d :: ds) is (i :: ls)) → ∃ ds is, rdSs env (.sl i :: os) = some ds ∧ ioSlots (.v :: fl) (.sl i :: os) = some is ∧ is.all (isOwnL env) = true ∧ (scrs (.v :: fl) (.sl i :: os)).all (isScr env) = true ∧ ((lent (.v :: fl) (.sl i :: os)).all fun i => !isScr env i) = true ∧ K ds is (lent (.v :: fl) (.sl i :: os)) := fun d hd hn h => by
      obtain ⟨ds, is, h1, h2, h3, h4, h5, h6⟩ := warg_ok h
      refine ⟨d :: ds, is, by simp [rdSs, rdS, h1, e, hd], by simpa [ioSlots] using h2, h3, by simpa [scrs] using h4, ?_, h6⟩
      rw [lent, List.all_cons, h5, Bool.and_true]
      unfold isScr
      rw [e]
      cases s <;> first | rfl | exact absurd rfl (hn _)
    cases s with
    | val d => exact go _ rfl (fun _ z => by cases z) h
    | own d => exact go _ rfl (fun _ z => by cases z) h
    | owd d => exact go _ rfl (fun _ z => by cases z) h
    | _ => exact h.elim
  | .io :: fl, .sl i :: os, env, K, h => by
    obtain ⟨s, e, h⟩ := wsl_ok (show wsl i env _ from h)
    cases s with
    | own d =>
      obtain ⟨ds, is, h1, h2, h3, h4, h5, h6⟩ := warg_ok (show warg fl os env _ from h)
      exact ⟨.list d :: ds, i :: is, by simp [rdSs, rdS, h1, e, slS, slD], by simp [ioSlots, h2], by simp only [List.all_cons, h3, Bool.and_true]; simp [isOwnL, e], by simpa [scrs] using h4, by simpa [lent] using h5, h6⟩
    | _ => exact h.elim
  | .sc :: fl, .sl i :: os, env, K, h => by
    obtain ⟨s, e, h⟩ := wsl_ok (show wsl i env _ from h)
    cases s with
    | scr d =>
      obtain ⟨ds, is, h1, h2, h3, h4, h5, h6⟩ := warg_ok (show warg fl os env _ from h)
      exact ⟨.list d :: ds, is, by simp [rdSs, rdS, h1, e, slS], by simp [ioSlots, h2], h3, by simp only [scrs, List.all_cons, h4, Bool.and_true]; simp [isScr, e], by simpa [lent] using h5, h6⟩
    | _ => exact h.elim
  | .io :: _, .dt _ :: _, _, _, h => h.elim
  | .sc :: _, .dt _ :: _, _, _, h => h.elim
  | [], _ :: _, _, _, h => h.elim
  | .v :: _, [], _, _, h => h.elim
  | .io :: _, [], _, _, h => h.elim
  | .sc :: _, [], _, _, h => h.elim
/-- are the slots that are changed apart? -/
def apart : List Nat → List Nat → Bool
  | [], _ => true
  | i :: is, ls => decide ((i :: is).Nodup) && (i :: is).all fun i => decide (i ∉ ls)
theorem apart_ok {is ls : List Nat} (h : apart is ls = true) : is.Nodup ∧ ∀ i ∈ is, i ∉ ls := by
  cases is with
  | nil => simp
  | cons i is =>
    unfold apart at h
    rw [Bool.and_eq_true] at h
    exact ⟨of_decide_eq_true h.1, fun j hj => of_decide_eq_true (List.all_eq_true.mp h.2 j hj)⟩
def wout (is ls : List Nat) (q : PyData × Bool) (outs : List (List PyData)) (env : En) (Q : PyData × Bool → En → Prop) : Prop := match is, ls, outs with
  | [], [], [] => Q q env
  | [i], [], [o] => wset i (.own o) env (Q q)
  | is, ls, outs => outs.length = is.length ∧ wite (noMutR q && outs.all noMutAll) (Q q (setOuts is outs env)) (Q q (setOuts is outs (frzAt ls env)))
theorem wout_0 {q env Q} : wout [] [] q [] env Q = Q q env := rfl
theorem wout_1 {i q o env Q} : wout [i] [] q [o] env Q = wset i (.own o) env (Q q) := rfl
theorem wout_l {i is ls q outs env Q} : wout is (i :: ls) q outs env Q = (outs.length = is.length ∧ wite (noMutR q && outs.all noMutAll) (Q q (setOuts is outs env)) (Q q (setOuts is outs (frzAt (i :: ls) env)))) := by
  rcases is with _ | ⟨a, _ | ⟨b, c⟩⟩ <;> rcases outs with _ | ⟨d, _ | ⟨e, f⟩⟩ <;> rfl
theorem wout_ok {is ls : List Nat} {q : PyData × Bool} {outs : List (List PyData)} {env : En} {Q : PyData × Bool → En → Prop} (h : wout is ls q outs env Q) : outs.length = is.length ∧ Q q (if (noMutR q && outs.all noMutAll) = true then setOuts is outs env else setOuts is outs (frzAt ls env)) := by
  unfold wout at h
  split at h
  · exact ⟨rfl, by simpa [setOuts, frzAt] using h⟩
  · exact ⟨rfl, by simpa [setOuts, frzAt] using (wset_ok h).2⟩
  · refine ⟨h.1, ?_⟩
    have h := h.2
    rw [wite_if] at h
    split <;> simp_all
section
variable (Φ : Fns) (io : Nat → List Pk)
def wcall (f : Nat) (fl : List Pk) (os : List Op) (env : En) (Q : PyData × Bool → En → Prop) : Prop :=
  warg fl os env fun ds is ls => apart is ls = true ∧ Ok (Φ f ds) fun r => wout is ls r.1 r.2 env Q
theorem wcall_ok {f : Nat} {os : List Op} {env : En} {Q : PyData × Bool → En → Prop} (h : wcall Φ f (io f) os env Q) : Ok (callM Φ io f os env) fun p => Q p.1 p.2 := by
  obtain ⟨ds, is, h1, h2, h3, h4, h5, h6, h7⟩ := warg_ok h
  obtain ⟨r, h7, h8⟩ := ok_iff.mp h7
  have a := apart_ok h6
  obtain ⟨w1, w2⟩ := wout_ok h8
  unfold callM
  rw [h1, h2]
  simp only [Option.bind_some]
  rw [if_pos ⟨h3, h4, h5, a.1, a.2⟩, h7]
  simp only [Option.bind_some]
  rw [if_pos w1]
  exact ok_some.mpr w2
theorem wcall_eq {f : Nat} {p : Pk} {fl : List Pk} {os : List Op} {env : En} {Q : PyData × Bool → En → Prop} : wcall Φ f (p :: fl) os env Q = warg (p :: fl) os env fun ds is ls => apart is ls = true ∧ Ok (Φ f ds) fun r => wout is ls r.1 r.2 env Q := rfl
theorem wcall_eq0 {f : Nat} {os : List Op} {env : En} {Q : PyData × Bool → En → Prop} : wcall Φ f [] os env Q = warg [] os env fun ds is ls => apart is ls = true ∧ Ok (Φ f ds) fun r => wout is ls r.1 r.2 env Q := rfl
def wcallT (f : Nat) (fl : List Pk) (q : PyData × Bool) (env : En) (Q : PyData × Bool → En → Prop) : Prop := match q with
  | (.list ds, true) => fl = [.io] ∧ Ok (Φ f [.list ds]) fun r => r.2.length = 1 ∧ Q r.1 env
  | _ => False
theorem wcallT_eq {f fl ds env Q} : wcallT Φ f fl (.list ds, true) env Q = (fl = [.io] ∧ Ok (Φ f [.list ds]) fun r => r.2.length = 1 ∧ Q r.1 env) := rfl
theorem wcallT_ok {f : Nat} {q : PyData × Bool} {env : En} {Q : PyData × Bool → En → Prop} (h : wcallT Φ f (io f) q env Q) : Ok (callTM Φ io f (q, env)) fun p => Q p.1 p.2 := by
  unfold wcallT at h
  split at h
  · rename_i ds
    show Ok (if io f = [.io] then (Φ f [.list ds]).bind fun q => if q.2.length = 1 then some (q.1, env) else none else none) _
    rw [if_pos h.1, ok_bind]
    exact h.2.mono fun r hr => by
      rw [if_pos hr.1]; exact ok_some.mpr hr.2
  · exact h.elim
def wplace (kw : List Nat) (os : List Op) (K : List Op → Prop) : Prop := match kw with
  | [] => K os
  | _ => Ex (place kw os) K
theorem wplace_nil {os K} : wplace [] os K = K os := rfl
theorem wplace_cons {i l os K} : wplace (i :: l) os K = Ex (place (i :: l) os) K := rfl
theorem wplace_ok {kw os K} (h : wplace kw os K) : Ok (place kw os) K := by
  cases kw with
  | nil => exact ok_some.mpr h
  | cons i l => exact Ex.ok h
/-- a comparison, within a dict whose keys are tuples apart -/
def wcmpD (op : CmpOp) (x y : PyData) (K : Bool → Prop) : Prop := match op with
  | .In => Ok (inD x y) K
  | .NotIn => Ok (inD x y) fun b => K (!b)
  | op => Ex (cmpD op x y) K
theorem wcmpD_ok {op : CmpOp} {x y : PyData} {K : Bool → Prop} (h : wcmpD op x y K) : Ok (cmpD op x y) K := by
  cases op with
  | In => cases x <;> exact h
  | NotIn => cases x <;> exact ok_map.mpr h
  | _ => exact Ex.ok h
def wcmp (op : CmpOp) : Op → Op → En → (Bool → Prop) → Prop
  | oa, .dt y, env, K => wrd oa env fun x => wcmpD op x y K
  | oa, .sl i, env, K => Ex (cmpE op oa (.sl i) env) K
theorem wcmp_dt {op oa y env K} : wcmp op oa (.dt y) env K = wrd oa env fun x => wcmpD op x y K := rfl
theorem wcmp_sl {op oa i env K} : wcmp op oa (.sl i) env K = Ex (cmpE op oa (.sl i) env) K := rfl
theorem wcmp_ok {op oa ob env K} (h : wcmp op oa ob env K) : Ok (cmpE op oa ob env) K := by
  cases ob with
  | dt y =>
    show Ok ((rdO env oa).bind fun x => (some y).bind fun y => cmpD op x y) K
    rw [ok_bind]
    exact (wrd_ok h).mono fun x hx => wcmpD_ok hx
  | sl i => exact Ex.ok h
def wrdF (f : BF) (env : En) (os : List Op) (K : List PyData → Prop) : Prop := match f with
  | .len => wrdsS os env K
  | _ => wrds os env K
theorem wrdF_ok {f env os K} (h : wrdF f env os K) : Ok (rdF f env os) K := by
  cases f with
  | len => exact wrdsS_ok h
  | _ => exact wrds_ok h
def wrdM (m : BM) (env : En) (os : List Op) (K : List PyData → Prop) : Prop := match m with
  | .get2 => Ex (rdM .get2 env os) K
  | _ => wrds os env K
theorem wrdM_ok {f env os K} (h : wrdM f env os K) : Ok (rdM f env os) K := by
  cases f with
  | get2 => exact Ex.ok h
  | _ => exact wrds_ok h
/-- d where it is true, otherwise what follows -/
def wOr : PyData → (PyData → Prop) → Prop → Prop
  | .bool b, K, L => wite b (K (.bool true)) L
  | .none, K, L => L
  | .int i, K, L => wite (i != 0) (K (.int i)) L
  | .str s, K, L => wite (!(s.length == 0)) (K (.str s)) L
  | .list s, K, L => wite (!s.isEmpty) (K (.list s)) L
  | .tuple s, K, L => wite (!s.isEmpty) (K (.tuple s)) L
  | .dict s, K, L => wite (!s.isEmpty) (K (.dict s)) L
theorem wOr_ok {d : PyData} {K : PyData → Prop} {L : Prop} (h : wOr d K L) : if truth d = true then K d else L := by
  cases d with
  | bool b => cases b <;> exact h
  | none => exact h
  | _ => exact wite_if.mp h
def wAnd : PyData → (PyData → Prop) → Prop → Prop
  | .bool b, K, L => wite b L (K (.bool false))
  | .none, K, L => K .none
  | .int i, K, L => wite (i != 0) L (K (.int i))
  | .str s, K, L => wite (!(s.length == 0)) L (K (.str s))
  | .list s, K, L => wite (!s.isEmpty) L (K (.list s))
  | .tuple s, K, L => wite (!s.isEmpty) L (K (.tuple s))
  | .dict s, K, L => wite (!s.isEmpty) L (K (.dict s))
theorem wAnd_ok {d : PyData} {K : PyData → Prop} {L : Prop} (h : wAnd d K L) : if truth d = true then L else K d := by
  cases d with
  | bool b => cases b <;> exact h
  | none => exact h
  | _ => exact wite_if.mp h
/-- one item -/
def wneg : PyData → (PyData → Prop) → Prop
  | .int i, K => K (.int (-i))
  | .bool _, _ => False
  | .none, _ => False
  | .str _, _ => False
  | .list _, _ => False
  | .tuple _, _ => False
  | .dict _, _ => False
theorem wneg_int {i K} : wneg (.int i) K = K (.int (-i)) := rfl

mutual
def we : ME → En → (PyData → En → Prop) → Prop
  | .cst d, env, Q => Q d env
  | .glo _ d, env, Q => Q d env
  | .var i, env, Q => wvar i env Q
  | .not_ a, env, Q => wopd a env (we a env) fun o e => wrd o e fun d => wtr d fun b => Q (.bool (!b)) e
  | .and_ a b, env, Q => we a env fun d e => wAnd d (fun d => Q d e) (we b e Q)
  | .or_ a b, env, Q => we a env fun d e => wOr d (fun d => Q d e) (we b e Q)
  | .ife c a b, env, Q => wopd c env (we c env) fun o e => wrd o e fun d => wtr d fun t => wite t (we a e Q) (we b e Q)
  | .cmp op a b, env, Q => wopd a env (we a env) fun x e => wopd b e (we b e) fun y e2 => wcmp op x y e2 fun t => Q (.bool t) e2
  | .chn o1 o2 a b c, env, Q => wopd a env (we a env) fun x e => wopd b e (we b e) fun y e2 => wrd x e2 fun dx => wrd y e2 fun dy => Ex (cmpD o1 dx dy) fun t => wite t
      (wopd c e2 (we c e2) fun z e3 => wrd y e3 fun dy2 => wrd z e3 fun dz => Ex (cmpD o2 dy2 dz) fun u => Q (.bool u) e3) (Q (.bool false) e2)
  | .bin op a b, env, Q => wopd a env (we a env) fun x e => wopd b e (we b e) fun y e2 => wrd x e2 fun dx => wrd y e2 fun dy => Ex (binD op dx dy) fun z => Q z e2
  | .neg a, env, Q => we a env fun d e => wneg d fun z => Q z e
  | .tup l, env, Q => wes l env fun ds e => ds.length ≤ lim ∧ Q (.tuple ds) e
  | .lst l, env, Q => wes l env fun ds e => ds.length ≤ lim ∧ Q (.list ds) e
  | .dct0, env, Q => Q (.dict []) env
  | .idx a i, env, Q => wopd a env (we a env) fun x e => wopd i e (we i e) fun y e2 => wrdS x e2 fun dx => wrd y e2 fun dy => Ex (idxD dx dy) fun z => Q z e2
  | .slc a lo hi, env, Q => wopd a env (we a env) fun x e => weO lo e fun l e2 => weO hi e2 fun h e3 => wrd x e3 fun dx => Ex (slcD l h dx) fun z => Q z e3
  | .rev a, env, Q => wopd a env (we a env) fun x e => wrd x e fun dx => Ex (revD dx) fun z => Q z e
  | .isi a T, env, Q => wopd a env (we a env) fun x e => wrd x e fun dx => Ex (isiD T dx) fun t => Q (.bool t) e
  | .call f l lk kw, env, Q => weos l env fun os e => weos lk e fun os2 e2 => wplace kw (os ++ os2) fun os3 => wcall Φ f (io f) os3 e2 fun q e3 => Q q.1 e3
  | .callT f g l, env, Q => weos l env fun os e => wcall Φ g (io g) os e fun q e2 => wcallT Φ f (io f) q e2 fun q2 e3 => Q q2.1 e3
  | .lzip a b, env, Q => we a env fun x e => we b e fun y e2 => match x, y with
    | .list xs, .list ys => Q (.list (zipL xs ys)) e2
    | _, _ => False
  | .rpr a, env, Q => wopd a env (we a env) fun x e => wrd x e fun dx => Ex (reprF dx) fun z => Q z e
  | .lset a, env, Q => wopd a env (we a env) fun x e => wrd x e fun dx => Ex (lsetF dx) fun z => Q z e
  | .blt f l, env, Q => weos l env fun os e => wrdF f e os fun ds => Ex (bltD f ds) fun z => Q z e
  | .met m a l, env, Q => wopd a env (we a env) fun o e => weos l e fun os e2 => wrd o e2 fun x => wrd o e fun x0 => tyN x0 = tyN x ∧ wrdM m e2 os fun ds => Ex (metD m x ds) fun z => Q z e2
  | .comp vs g it c a, env, Q => weI it env fun xs e => vs.all (notOwn e) = true ∧ Ok (compS Φ io vs g c a xs e) fun p => Q p.1 p.2
def wes : MEs → En → (List PyData → En → Prop) → Prop
  | .nil, env, Q => Q [] env
  | .cons a l, env, Q => we a env fun d e => wes l e fun ds e2 => Q (d :: ds) e2
def weos : MEs → En → (List Op → En → Prop) → Prop
  | .nil, env, Q => Q [] env
  | .cons a l, env, Q => wopd a env (we a env) fun o e => weos l e fun os e2 => Q (o :: os) e2
def weO : MO → En → (Option Int → En → Prop) → Prop
  | .no, env, Q => Q none env
  | .so a, env, Q => we a env fun d e => Ex (asInt d) fun i => Q (some i) e
def weI : MI → En → (List PyData → En → Prop) → Prop
  | .seq a, env, Q => we a env fun d e => Ex (seqItems d) fun ds => Q ds e
  | .rng a, env, Q => we a env fun d e => Ex (asInt d) fun j => (-(2 ^ 62) ≤ j ∧ j < 2 ^ 62) ∧ Q (intsFrom 0 j.toNat) e
  | .rng2 a b, env, Q => we a env fun d e => we b e fun d2 e2 => Ex (asInt d) fun i => Ex (asInt d2) fun j => (-(2 ^ 62) ≤ i ∧ i < 2 ^ 62 ∧ -(2 ^ 62) ≤ j ∧ j < 2 ^ 62) ∧ Q (intsFrom i (j - i).toNat) e2
  | .enu a, env, Q => we a env fun d e => Ex (ltItems d) fun ds => Q (enumL 0 ds) e
  | .zip a b, env, Q => we a env fun d e => we b e fun d2 e2 => Ex (ltItems d) fun xs => Ex (ltItems d2) fun ys => Q (zipL xs ys) e2
end
end
end Mi

set_option maxHeartbeats 2000000
/-! W4: the evaluator turned about is sound. -/
namespace Mi
open PySem PySem.Spec PyProof.Rows L2
section
variable {Φ : Fns} {io : Nat → List Pk}
theorem ok_b {α β : Type} {r : Option α} {f : α → Option β} {Q : β → Prop} {P : α → Prop} (h : Ok r P) (i : ∀ a, P a → Ok (f a) Q) : Ok (r.bind f) Q := ok_bind.mpr (h.mono i)
theorem ok_m {α β : Type} {r : Option α} {f : α → β} {Q : β → Prop} {P : α → Prop} (h : Ok r P) (i : ∀ a, P a → Q (f a)) : Ok (r.map f) Q := ok_map.mpr (h.mono i)
theorem opd_ok {a : ME} {env : En} {Q : Op → En → Prop} (ih : ∀ (env : En) (Q : PyData → En → Prop), we Φ io a env Q → Ok (ev Φ io a env) fun p => Q p.1 p.2) (h : wopd a env (we Φ io a env) Q) : Ok (opd a env (ev Φ io a env)) fun p => Q p.1 p.2 :=
  wopd_ok (ih env) (fun d e => by subst e; rfl) (fun x d e => by subst e; rfl) h
theorem tst_ok {a : ME} {env : En} {Q : Bool → En → Prop} (ih : ∀ (env : En) (Q : PyData → En → Prop), we Φ io a env Q → Ok (ev Φ io a env) fun p => Q p.1 p.2) (h : wopd a env (we Φ io a env) fun o e => wrd o e fun d => wtr d fun t => Q t e) : Ok (tstO (opd a env (ev Φ io a env))) fun p => Q p.1 p.2 :=
  ok_b (opd_ok ih h) fun p hp => ok_m (wrd_ok hp) fun d hd => wtr_ok.mp hd
mutual
theorem we_ok : ∀ (a : ME) (env : En) (Q : PyData → En → Prop), we Φ io a env Q → Ok (ev Φ io a env) fun p => Q p.1 p.2
  | .cst d, env, Q, h => ok_some.mpr h
  | .glo _ d, env, Q, h => ok_some.mpr h
  | .var i, env, Q, h => wvar_ok h
  | .not_ a, env, Q, h => by rw [ev_not]; exact ok_m (tst_ok (Q := fun t e => Q (.bool (!t)) e) (we_ok a) h) fun p hp => hp
  | .and_ a b, env, Q, h => by
    rw [ev_and]
    refine ok_b (we_ok a env _ h) fun p hp => ?_
    have hp := wAnd_ok hp
    split
    · rename_i c; rw [if_pos c] at hp; exact we_ok b _ _ hp
    · rename_i c; rw [if_neg c] at hp; exact ok_some.mpr hp
  | .or_ a b, env, Q, h => by
    rw [ev_or]
    refine ok_b (we_ok a env _ h) fun p hp => ?_
    have hp := wOr_ok hp
    split
    · rename_i c; rw [if_pos c] at hp; exact ok_some.mpr hp
    · rename_i c; rw [if_neg c] at hp; exact we_ok b _ _ hp
  | .ife c a b, env, Q, h => by
    rw [ev_ife]
    refine ok_b (tst_ok (Q := fun t e => wite t (we Φ io a e Q) (we Φ io b e Q)) (we_ok c) h) fun p hp => ?_
    have hp := wite_if.mp hp
    split
    · rename_i c; rw [if_pos c] at hp; exact we_ok a _ _ hp
    · rename_i c; rw [if_neg c] at hp; exact we_ok b _ _ hp
  | .cmp op a b, env, Q, h => by
    rw [ev_cmp]
    exact ok_b (opd_ok (we_ok a) h) fun p hp => ok_b (opd_ok (we_ok b) hp) fun q hq => ok_m (wcmp_ok hq) fun t ht => ht
  | .chn o1 o2 a b c, env, Q, h => by
    rw [ev_chn]
    refine ok_b (opd_ok (we_ok a) h) fun p hp => ok_b (opd_ok (we_ok b) hp) fun q hq => ok_b (wrd_ok hq) fun x hx => ok_b (wrd_ok hx) fun y hy => ok_b (Ex.ok hy) fun t ht => ?_
    have ht := wite_if.mp ht
    split
    · rename_i c; rw [if_pos c] at ht
      exact ok_b (opd_ok (we_ok _) ht) fun r hr => ok_b (wrd_ok hr) fun y' hy' => ok_b (wrd_ok hy') fun z hz => ok_m (Ex.ok hz) fun u hu => hu
    · rename_i c; rw [if_neg c] at ht; exact ok_some.mpr ht
  | .bin op a b, env, Q, h => by
    rw [ev_bin]
    exact ok_b (opd_ok (we_ok a) h) fun p hp => ok_b (opd_ok (we_ok b) hp) fun q hq => ok_b (wrd_ok hq) fun x hx => ok_b (wrd_ok hx) fun y hy => ok_m (Ex.ok hy) fun z hz => hz
  | .neg a, env, Q, h => by
    rw [ev_neg]
    refine ok_b (we_ok a env _ h) fun p hp => ?_
    rcases p with ⟨d, e⟩
    cases d with
    | int i => exact ok_some.mpr hp
    | _ => exact hp.elim
  | .tup l, env, Q, h => by
    rw [ev_tup]
    exact ok_b (wes_ok l env _ h) fun p hp => by rw [if_pos hp.1]; exact ok_some.mpr hp.2
  | .lst l, env, Q, h => by
    rw [ev_lst]
    exact ok_b (wes_ok l env _ h) fun p hp => by rw [if_pos hp.1]; exact ok_some.mpr hp.2
  | .dct0, env, Q, h => ok_some.mpr h
  | .idx a i, env, Q, h => by
    rw [ev_idx]
    exact ok_b (opd_ok (we_ok a) h) fun p hp => ok_b (opd_ok (we_ok i) hp) fun q hq => ok_b (wrdS_ok hq) fun x hx => ok_b (wrd_ok hx) fun y hy => ok_m (Ex.ok hy) fun z hz => hz
  | .slc a lo hi, env, Q, h => by
    rw [ev_slc]
    exact ok_b (opd_ok (we_ok a) h) fun p hp => ok_b (weO_ok lo _ _ hp) fun q hq => ok_b (weO_ok hi _ _ hq) fun r hr => ok_b (wrd_ok hr) fun x hx => ok_m (Ex.ok hx) fun z hz => hz
  | .rev a, env, Q, h => by
    rw [ev_rev]
    exact ok_b (opd_ok (we_ok a) h) fun p hp => ok_b (wrd_ok hp) fun x hx => ok_m (Ex.ok hx) fun z hz => hz
  | .isi a T, env, Q, h => by
    rw [ev_isi]
    exact ok_b (opd_ok (we_ok a) h) fun p hp => ok_b (wrd_ok hp) fun x hx => ok_m (Ex.ok hx) fun z hz => hz
  | .call f l lk kw, env, Q, h => by
    rw [ev_call]
    exact ok_b (weos_ok l env _ h) fun p hp => ok_b (weos_ok lk _ _ hp) fun q hq => ok_b (wplace_ok hq) fun os hos => ok_m (wcall_ok Φ io hos) fun z hz => hz
  | .callT f g l, env, Q, h => by
    rw [ev_callT]
    exact ok_b (weos_ok l env _ h) fun p hp => ok_b (wcall_ok Φ io hp) fun q hq => ok_m (wcallT_ok Φ io hq) fun z hz => hz
  | .lzip a b, env, Q, h => by
    rw [ev_lzip]
    refine ok_b (we_ok a env _ h) fun p hp => ok_b (we_ok b _ _ hp) fun q hq => ?_
    split at hq
    · rename_i xs ys e1 e2
      first | exact ok_some.mpr hq | (rw [e1, e2]; exact ok_some.mpr hq)
    · exact hq.elim
  | .rpr a, env, Q, h => by
    rw [ev_rpr]
    exact ok_b (opd_ok (we_ok a) h) fun p hp => ok_b (wrd_ok hp) fun x hx => ok_m (Ex.ok hx) fun z hz => hz
  | .lset a, env, Q, h => by
    rw [ev_lset]
    exact ok_b (opd_ok (we_ok a) h) fun p hp => ok_b (wrd_ok hp) fun x hx => ok_m (Ex.ok hx) fun z hz => hz
  | .blt f l, env, Q, h => by
    rw [ev_blt]
    exact ok_b (weos_ok l env _ h) fun p hp => ok_b (wrdF_ok hp) fun x hx => ok_m (Ex.ok hx) fun z hz => hz
  | .met m a l, env, Q, h => by
    rw [ev_met]
    refine ok_b (opd_ok (we_ok a) h) fun p hp => ok_b (weos_ok l _ _ hp) fun q hq => ok_b (wrd_ok hq) fun x hx => ?_
    obtain ⟨x0, e0, hx⟩ := ok_iff.mp (wrd_ok hx)
    rw [e0]
    rw [if_pos (by rw [Option.map_some, hx.1])]
    exact ok_b (wrdM_ok hx.2) fun ds hds => ok_m (Ex.ok hds) fun z hz => hz
  | .comp vs g it c a, env, Q, h => by
    rw [ev_comp]
    exact ok_b (weI_ok it env _ h) fun p hp => by rw [if_pos hp.1]; exact hp.2
theorem wes_ok : ∀ (l : MEs) (env : En) (Q : List PyData → En → Prop), wes Φ io l env Q → Ok (evs Φ io l env) fun p => Q p.1 p.2
  | .nil, env, Q, h => ok_some.mpr h
  | .cons a l, env, Q, h => by
    rw [evs_cons]
    exact ok_b (we_ok a env _ h) fun p hp => ok_m (wes_ok l _ _ hp) fun q hq => hq
theorem weos_ok : ∀ (l : MEs) (env : En) (Q : List Op → En → Prop), weos Φ io l env Q → Ok (evos Φ io l env) fun p => Q p.1 p.2
  | .nil, env, Q, h => ok_some.mpr h
  | .cons a l, env, Q, h => by
    rw [evos_cons]
    exact ok_b (opd_ok (we_ok a) h) fun p hp => ok_m (weos_ok l _ _ hp) fun q hq => hq
theorem weO_ok : ∀ (l : MO) (env : En) (Q : Option Int → En → Prop), weO Φ io l env Q → Ok (evO Φ io l env) fun p => Q p.1 p.2
  | .no, env, Q, h => ok_some.mpr h
  | .so a, env, Q, h => by
    rw [evO_so]
    exact ok_b (we_ok a env _ h) fun p hp => ok_m (Ex.ok hp) fun q hq => hq
theorem weI_ok : ∀ (l : MI) (env : En) (Q : List PyData → En → Prop), weI Φ io l env Q → Ok (evI Φ io l env) fun p => Q p.1 p.2
  | .seq a, env, Q, h => by
    rw [evI_seq]
    exact ok_b (we_ok a env _ h) fun p hp => ok_m (Ex.ok hp) fun q hq => hq
  | .rng a, env, Q, h => by
    rw [evI_rng]
    refine ok_b (we_ok a env _ h) fun p hp => ?_
    obtain ⟨j, e, h1, h2⟩ := hp
    rcases p with ⟨d, e1⟩
    cases d with
    | int i => cases e; show Ok (if _ then _ else _) _; rw [if_pos h1]; exact ok_some.mpr h2
    | _ => cases e
  | .rng2 a b, env, Q, h => by
    rw [evI_rng2]
    refine ok_b (we_ok a env _ h) fun p hp => ok_b (we_ok b _ _ hp) fun q hq => ?_
    obtain ⟨i, e, hq⟩ := hq
    obtain ⟨j, e', h1, h2⟩ := hq
    rcases p with ⟨d, e1⟩
    rcases q with ⟨d2, e2⟩
    cases d with
    | int i =>
      cases d2 with
      | int j => cases e; cases e'; show Ok (if _ then _ else _) _; rw [if_pos h1]; exact ok_some.mpr h2
      | _ => cases e'
    | _ => cases e
  | .enu a, env, Q, h => by
    rw [evI_enu]
    exact ok_b (we_ok a env _ h) fun p hp => ok_m (Ex.ok hp) fun q hq => hq
  | .zip a b, env, Q, h => by
    rw [evI_zip]
    exact ok_b (we_ok a env _ h) fun p hp => ok_b (we_ok b _ _ hp) fun q hq => ok_b (Ex.ok hq) fun xs hxs => ok_m (Ex.ok hxs) fun ys hys => hys
end

/-! ### what an expression gives, with whether it is new -/
def weF (Φ : Fns) (io : Nat → List Pk) (a : ME) (env : En) (Q : PyData × Bool → En → Prop) : Prop := match a with
  | .call f l lk kw => weos Φ io l env fun os e => weos Φ io lk e fun os2 e2 => wplace kw (os ++ os2) fun os3 => wcall Φ f (io f) os3 e2 Q
  | .callT f g l => weos Φ io l env fun os e => wcall Φ g (io g) os e fun q e2 => wcallT Φ f (io f) q e2 Q
  | a => we Φ io a env fun d e => Q (d, frME a d) e
theorem weF_ok {a : ME} {env : En} {Q : PyData × Bool → En → Prop} (h : weF Φ io a env Q) : Ok (evF Φ io a env) fun p => Q p.1 p.2 := by
  have gen : (we Φ io a env fun d e => Q (d, frME a d) e) → Ok ((ev Φ io a env).map fun p => ((p.1, frME a p.1), p.2)) fun p => Q p.1 p.2 := fun h => ok_m (we_ok a env _ h) fun p hp => hp
  cases a with
  | call f l lk kw =>
    rw [evF_call]
    exact ok_b (weos_ok l env _ h) fun p hp => ok_b (weos_ok lk _ _ hp) fun q hq => ok_b (wplace_ok hq) fun os hos => wcall_ok Φ io hos
  | callT f g l =>
    rw [evF_callT]
    exact ok_b (weos_ok l env _ h) fun p hp => ok_b (wcall_ok Φ io hp) fun q hq => wcallT_ok Φ io hq
  | _ => exact gen h
def wesF (Φ : Fns) (io : Nat → List Pk) : MEs → En → (List (PyData × Bool) → En → Prop) → Prop
  | .nil, env, Q => Q [] env
  | .cons a l, env, Q => weF Φ io a env fun p e => wesF Φ io l e fun ps e2 => Q (p :: ps) e2
theorem wesF_ok : ∀ (l : MEs) (env : En) (Q : List (PyData × Bool) → En → Prop), wesF Φ io l env Q → Ok (evsF Φ io l env) fun p => Q p.1 p.2
  | .nil, env, Q, h => ok_some.mpr h
  | .cons a l, env, Q, h => by
    rw [evsF_cons]
    exact ok_b (weF_ok (show weF Φ io a env _ from h)) fun p hp => ok_m (wesF_ok l _ _ hp) fun q hq => hq
/-- a slot's word from a value -/
def wsv (q : PyData × Bool) (K : Sl → Prop) : Prop := match q with
  | (.list ds, b) => wite b (K (.own ds)) (K (.val (.list ds)))
  | (.dict ds, b) => wite b (K (.owd ds)) (K (.val (.dict ds)))
  | (d, _) => K (.val d)
theorem wsv_list {ds b K} : wsv (.list ds, b) K = wite b (K (.own ds)) (K (.val (.list ds))) := rfl
theorem wsv_dict {ds b K} : wsv (.dict ds, b) K = wite b (K (.owd ds)) (K (.val (.dict ds))) := rfl
theorem wsv_int {i b K} : wsv (.int i, b) K = K (.val (.int i)) := rfl
theorem wsv_str {i b K} : wsv (.str i, b) K = K (.val (.str i)) := rfl
theorem wsv_bool {i b K} : wsv (.bool i, b) K = K (.val (.bool i)) := rfl
theorem wsv_tuple {i b K} : wsv (.tuple i, b) K = K (.val (.tuple i)) := rfl
theorem wsv_none {b K} : wsv (.none, b) K = K (.val .none) := rfl
theorem wsv_ff {d K} : wsv (d, false) K = K (.val d) := by cases d <;> rfl
theorem wsv_ok {q : PyData × Bool} {K : Sl → Prop} : wsv q K ↔ K (toSl q.2 q.1) := by
  rcases q with ⟨d, b⟩
  cases d <;> cases b <;> rfl
def wasg : List Nat → List (PyData × Bool) → En → (En → Prop) → Prop
  | [], [], env, K => K env
  | i :: is, p :: ps, env, K => wsv p fun s => wset i s env fun e => wasg is ps e K
  | [], _ :: _, _, _ => False
  | _ :: _, [], _, _ => False
theorem wasg_nil {env K} : wasg [] [] env K = K env := rfl
theorem wasg_cons {i is p ps env K} : wasg (i :: is) (p :: ps) env K = wsv p fun s => wset i s env fun e => wasg is ps e K := rfl
theorem wasg_ok : ∀ {is : List Nat} {ps : List (PyData × Bool)} {env : En} {K : En → Prop}, wasg is ps env K → Ok (asgAll is ps env) K
  | [], [], _, _, h => ok_some.mpr h
  | i :: is, p :: ps, env, K, h => by
    have h : wsv p (fun s => wset i s env fun e => wasg is ps e K) := h
    exact wasg_ok (is := is) (ps := ps) (wset_ok (wsv_ok.mp h)).2
  | [], _ :: _, _, _, h => h.elim
  | _ :: _, [], _, _, h => h.elim
def wownS : Sl → Prop → Prop
  | .own _, A => A
  | .owd _, A => A
  | .owt _, A => A
  | .val _, _ => False
  | .un, _ => False
  | .scr _, _ => False
theorem wownS_own {d A} : wownS (.own d) A = A := rfl
theorem wownS_owd {d A} : wownS (.owd d) A = A := rfl
theorem wownS_owt {d A} : wownS (.owt d) A = A := rfl
theorem wownS_ok {i : Nat} {env : En} {A : Prop} (h : wsl i env fun s => wownS s A) : isOwnS env i = true ∧ A := by
  obtain ⟨s, e, h⟩ := wsl_ok h
  unfold isOwnS
  rw [e]
  cases s with
  | own d => exact ⟨rfl, h⟩
  | owd d => exact ⟨rfl, h⟩
  | owt d => exact ⟨rfl, h⟩
  | _ => exact h.elim
def wxT (Φ : Fns) (io : Nat → List Pk) (ro : List Nat) : MTs → List PyData → En → (En → Prop) → Prop
  | .nil, [], env, K => K env
  | .cons (.nm i) l, d :: ds, env, K => decide (i ∉ ro) = true ∧ wset i (.val d) env fun e => wxT Φ io ro l ds e K
  | .cons (.sb i k) l, d :: ds, env, K => wsl i env fun s => wownS s (we Φ io k env fun kd e => wsl i e fun s => Ex (putS s kd d) fun s' => wset i s' e fun e2 => wxT Φ io ro l ds e2 K)
  | .nil, _ :: _, _, _ => False
  | .cons _ _, [], _, _ => False
theorem wxT_nil {ro env K} : wxT Φ io ro .nil [] env K = K env := rfl
theorem wxT_nm {ro i l d ds env K} : wxT Φ io ro (.cons (.nm i) l) (d :: ds) env K = (decide (i ∉ ro) = true ∧ wset i (.val d) env fun e => wxT Φ io ro l ds e K) := rfl
theorem wxT_sb {ro i k l d ds env K} : wxT Φ io ro (.cons (.sb i k) l) (d :: ds) env K = wsl i env fun s => wownS s (we Φ io k env fun kd e => wsl i e fun s => Ex (putS s kd d) fun s' => wset i s' e fun e2 => wxT Φ io ro l ds e2 K) := rfl
theorem wxT_ok {ro : List Nat} : ∀ {l : MTs} {ds : List PyData} {env : En} {K : En → Prop}, wxT Φ io ro l ds env K → Ok (exT Φ io ro l ds env) K
  | .nil, [], _, _, h => ok_some.mpr h
  | .cons (.nm i) l, d :: ds, env, K, h => by
    have h : decide (i ∉ ro) = true ∧ wset i (.val d) env fun e => wxT Φ io ro l ds e K := h
    show Ok (if i ∉ ro then exT Φ io ro l ds (env.set i (.val d)) else none) K
    rw [if_pos (of_decide_eq_true h.1)]
    exact wxT_ok (wset_ok h.2).2
  | .cons (.sb i k) l, d :: ds, env, K, h => by
    obtain ⟨h1, h2⟩ := wownS_ok (show wsl i env _ from h)
    show Ok (if isOwnS env i = true then (ev Φ io k env).bind fun p => (p.2[i]?).bind fun s => (putS s p.1 d).bind fun s' => exT Φ io ro l ds (p.2.set i s') else none) K
    rw [if_pos h1]
    refine ok_b (we_ok k env _ h2) fun p hp => ?_
    obtain ⟨s, e, hp⟩ := wsl_ok hp
    rw [e, Option.bind_some]
    exact ok_b (Ex.ok hp) fun s' hs' => wxT_ok (wset_ok hs').2
  | .nil, _ :: _, _, _, h => h.elim
  | .cons (.nm _) _, [], _, _, h => h.elim
  | .cons (.sb _ _) _, [], _, _, h => h.elim
/-- return e -/
def wRv (ro : List Nat) : Sl → Nat → En → (Fl → En → Prop) → Prop
  | .val d, _, env, Q => Q (.rt d false) env
  | .own ds, i, env, Q => wite (decide (i ∉ ro)) (wset i .un env (Q (.rt (.list ds) true))) (wset i (.val (.list ds)) env (Q (.rt (.list ds) false)))
  | .owd ds, i, env, Q => wite (decide (i ∉ ro)) (wset i .un env (Q (.rt (.dict ds) true))) (wset i (.val (.dict ds)) env (Q (.rt (.dict ds) false)))
  | .un, _, _, _ => False
  | .owt _, _, _, _ => False
  | .scr _, _, _, _ => False
theorem wRv_val {ro d i env Q} : wRv ro (.val d) i env Q = Q (.rt d false) env := rfl
theorem wRv_own {ro ds i env Q} : wRv ro (.own ds) i env Q = wite (decide (i ∉ ro)) (wset i .un env (Q (.rt (.list ds) true))) (wset i (.val (.list ds)) env (Q (.rt (.list ds) false))) := rfl
theorem wRv_owd {ro ds i env Q} : wRv ro (.owd ds) i env Q = wite (decide (i ∉ ro)) (wset i .un env (Q (.rt (.dict ds) true))) (wset i (.val (.dict ds)) env (Q (.rt (.dict ds) false))) := rfl
def wR (Φ : Fns) (io : Nat → List Pk) (ro : List Nat) (a : ME) (env : En) (Q : Fl → En → Prop) : Prop := match a with
  | .var i => wsl i env fun s => wRv ro s i env Q
  | a => weF Φ io a env fun q e => Q (.rt q.1 q.2) e
theorem wR_ok {ro : List Nat} {a : ME} {env : En} {Q : Fl → En → Prop} (h : wR Φ io ro a env Q) : Ok (exR Φ io ro a env) fun p => Q p.1 p.2 := by
  have gen : (weF Φ io a env fun q e => Q (.rt q.1 q.2) e) → Ok ((evF Φ io a env).map fun p => ((.rt p.1.1 p.1.2 : Fl), p.2)) fun p => Q p.1 p.2 := fun h => ok_m (weF_ok h) fun p hp => hp
  cases a with
  | var i =>
    obtain ⟨s, e, h⟩ := wsl_ok (show wsl i env _ from h)
    rw [exR_var]
    have ev : ∀ s', env[i]? = some s' → evVar i env = match s' with
      | .val d => some (d, env)
      | .own ds => some (.list ds, env.set i (.val (.list ds)))
      | .owd ds => some (.dict ds, env.set i (.val (.dict ds)))
      | _ => none := fun s' e' => by unfold evVar; rw [e']; cases s' <;> rfl
    rw [ev s e, e]
    cases s with
    | val d => split <;> exact ok_some.mpr h
    | own ds =>
      have h := wite_if.mp (show wite _ _ _ from h)
      split
      · rename_i c; rw [if_pos (decide_eq_true c)] at h; exact ok_some.mpr (wset_ok h).2
      · rename_i c; rw [if_neg (by simpa using c)] at h; exact ok_some.mpr (wset_ok h).2
    | owd ds =>
      have h := wite_if.mp (show wite _ _ _ from h)
      split
      · rename_i c; rw [if_pos (decide_eq_true c)] at h; exact ok_some.mpr (wset_ok h).2
      · rename_i c; rw [if_neg (by simpa using c)] at h; exact ok_some.mpr (wset_ok h).2
    | un => exact h.elim
    | owt ds => exact h.elim
    | scr ds => exact h.elim
  | _ => exact gen h
def wapp : Sl → PyData → (Sl → Prop) → Prop
  | .own ds, d, K => ds.length < lim ∧ K (.own (ds ++ [d]))
  | .owd _, _, _ => False
  | .owt _, _, _ => False
  | .val _, _, _ => False
  | .un, _, _ => False
  | .scr _, _, _ => False
theorem wapp_own {ds d K} : wapp (.own ds) d K = (ds.length < lim ∧ K (.own (ds ++ [d]))) := rfl
def wext : Sl → PyData → (Sl → Prop) → Prop
  | .own ds, .list es, K => ds.length + es.length ≤ lim ∧ K (.own (ds ++ es))
  | _, _, _ => False
theorem wext_own {ds d K} : wext (.own ds) (.list d) K = (ds.length + d.length ≤ lim ∧ K (.own (ds ++ d))) := rfl
def wIoS (s : Sl) (A : Prop) : Prop := match s with
  | .own _ => A
  | _ => False
theorem wIoS_own {ds A} : wIoS (.own ds) A = A := rfl
theorem wIoS_ok {i : Nat} {env : En} {A : Prop} (h : wsl i env fun s => wIoS s A) : isOwnL env i = true ∧ A := by
  obtain ⟨s, e, h⟩ := wsl_ok h
  unfold isOwnL
  rw [e]
  cases s with
  | own d => exact ⟨rfl, h⟩
  | _ => exact h.elim
section
variable (Φ : Fns) (io : Nat → List Pk) (ro : List Nat)
mutual
def ws : MS → En → (Fl → En → Prop) → Prop
  | .asg i e, env, Q => decide (i ∉ ro) = true ∧ weF Φ io e env fun q e => wsv q fun s => wset i s e (Q .nx)
  | .asgs is es, env, Q => is.all (fun i => decide (i ∉ ro)) = true ∧ wesF Φ io es env fun ps e => wasg is ps e (Q .nx)
  | .asgT l e, env, Q => we Φ io e env fun d e => match d with
    | .tuple ds => wxT Φ io ro l ds e (Q .nx)
    | _ => False
  | .put i k a, env, Q => we Φ io a env fun d e => wsl i e fun s => wownS s (we Φ io k e fun kd e2 => wsl i e2 fun s => Ex (putS s kd d) fun s' => wset i s' e2 (Q .nx))
  | .app i a, env, Q => wsl i env fun s => wIoS s (we Φ io a env fun d e => wsl i e fun s => wapp s d fun s' => wset i s' e (Q .nx))
  | .ext i a, env, Q => wsl i env fun s => wIoS s (we Φ io a env fun d e => wsl i e fun s => wext s d fun s' => wset i s' e (Q .nx))
  | .exp a, env, Q => we Φ io a env fun _ e => Q .nx e
  | .ifs c a b, env, Q => wopd c env (we Φ io c env) fun o e => wrd o e fun d => wtr d fun t => wite t (wss a e Q) (wss b e Q)
  | .for_ g it b, env, Q => gOk ro g = true ∧ weI Φ io it env fun xs e => Ok (forS Φ io ro g b xs e) fun p => Q p.1 p.2
  | .whl c b, env, Q => Ok (whlS Φ io ro c b 100000 env) fun p => Q p.1 p.2
  | .ret a, env, Q => wR Φ io ro a env Q
  | .retN, env, Q => Q (.rt .none false) env
  | .brk, env, Q => Q .bk env
  | .cnt, env, Q => Q .ct env
  | .pas, env, Q => Q .nx env
  | .bad, _, _ => False
def wss : MSs → En → (Fl → En → Prop) → Prop
  | .nil, env, Q => Q .nx env
  | .cons s l, env, Q => ws s env fun f e => match f with
    | .nx => wss l e Q
    | .rt d fr => Q (.rt d fr) e
    | .bk => Q .bk e
    | .ct => Q .ct e
end
end
mutual
theorem ws_ok {ro : List Nat} : ∀ (s : MS) (env : En) (Q : Fl → En → Prop), ws Φ io ro s env Q → Ok (ex Φ io ro s env) fun p => Q p.1 p.2
  | .asg i e, env, Q, h => by
    have h : decide (i ∉ ro) = true ∧ weF Φ io e env _ := h
    rw [ex_asg, if_pos (of_decide_eq_true h.1)]
    exact ok_m (weF_ok h.2) fun p hp => (wset_ok (wsv_ok.mp hp)).2
  | .asgs is es, env, Q, h => by
    have h : is.all (fun i => decide (i ∉ ro)) = true ∧ wesF Φ io es env _ := h
    rw [ex_asgs, if_pos h.1]
    exact ok_b (wesF_ok es env _ h.2) fun p hp => ok_m (wasg_ok hp) fun e he => he
  | .asgT l e, env, Q, h => by
    rw [ex_asgT]
    refine ok_b (we_ok e env _ h) fun p hp => ?_
    rcases p with ⟨d, e1⟩
    cases d with
    | tuple ds => exact ok_m (wxT_ok hp) fun e he => he
    | _ => exact hp.elim
  | .put i k a, env, Q, h => by
    rw [ex_put]
    refine ok_b (we_ok a env _ h) fun p hp => ?_
    obtain ⟨h1, h2⟩ := wownS_ok hp
    rw [if_pos h1]
    refine ok_b (we_ok k _ _ h2) fun q hq => ?_
    obtain ⟨s, e, hq⟩ := wsl_ok hq
    rw [e]
    exact ok_m (Ex.ok hq) fun s' hs' => (wset_ok hs').2
  | .app i a, env, Q, h => by
    obtain ⟨h1, h2⟩ := wIoS_ok (show wsl i env _ from h)
    rw [ex_app, if_pos h1]
    refine ok_b (we_ok a _ _ h2) fun q hq => ?_
    obtain ⟨s, e, hq⟩ := wsl_ok hq
    rw [e]
    cases s with
    | own ds => have hq : ds.length < lim ∧ wset i _ _ _ := hq; show Ok (if _ then _ else _) _; rw [if_pos hq.1]; exact ok_some.mpr (wset_ok hq.2).2
    | _ => exact hq.elim
  | .ext i a, env, Q, h => by
    obtain ⟨h1, h2⟩ := wIoS_ok (show wsl i env _ from h)
    rw [ex_ext, if_pos h1]
    refine ok_b (we_ok a _ _ h2) fun q hq => ?_
    obtain ⟨s, e, hq⟩ := wsl_ok hq
    rw [e]
    rcases q with ⟨d, e1⟩
    cases s with
    | own ds =>
      cases d with
      | list es => have hq : ds.length + es.length ≤ lim ∧ wset i _ _ _ := hq; show Ok (if _ then _ else _) _; rw [if_pos hq.1]; exact ok_some.mpr (wset_ok hq.2).2
      | _ => exact hq.elim
    | _ => cases d <;> exact hq.elim
  | .exp a, env, Q, h => by rw [ex_exp]; exact ok_m (we_ok a _ _ h) fun p hp => hp
  | .ifs c a b, env, Q, h => by
    rw [ex_ifs]
    refine ok_b (tst_ok (Q := fun t e => wite t (wss Φ io ro a e Q) (wss Φ io ro b e Q)) (we_ok c) h) fun p hp => ?_
    have hp := wite_if.mp hp
    split
    · rename_i c; rw [if_pos c] at hp; exact wss_ok a _ _ hp
    · rename_i c; rw [if_neg c] at hp; exact wss_ok b _ _ hp
  | .for_ g it b, env, Q, h => by
    have h : gOk ro g = true ∧ weI Φ io it env _ := h
    rw [ex_for, if_pos h.1]
    exact ok_b (weI_ok it env _ h.2) fun p hp => hp
  | .whl c b, env, Q, h => by rw [ex_whl]; exact h
  | .ret a, env, Q, h => wR_ok h
  | .retN, env, Q, h => ok_some.mpr h
  | .brk, env, Q, h => ok_some.mpr h
  | .cnt, env, Q, h => ok_some.mpr h
  | .pas, env, Q, h => ok_some.mpr h
  | .bad, _, _, h => h.elim
theorem wss_ok {ro : List Nat} : ∀ (l : MSs) (env : En) (Q : Fl → En → Prop), wss Φ io ro l env Q → Ok (exs Φ io ro l env) fun p => Q p.1 p.2
  | .nil, env, Q, h => ok_some.mpr h
  | .cons s l, env, Q, h => by
    rw [exs_cons]
    refine ok_b (ws_ok s env _ h) fun p hp => ?_
    rcases p with ⟨f, e⟩
    cases f with
    | nx => exact wss_ok l _ _ hp
    | rt d fr => exact ok_some.mpr hp
    | bk => exact ok_some.mpr hp
    | ct => exact ok_some.mpr hp
end

/-! ### defs -/
def wstart : List Pk → List PyData → Nat → (En → Prop) → Prop
  | [], [], n, K => K (List.replicate n .un)
  | .io :: r, .list ds :: t, n, K => wstart r t n fun e => K (.own ds :: e)
  | .sc :: r, .list ds :: t, n, K => wstart r t n fun e => K (.scr ds :: e)
  | .v :: r, d :: t, n, K => wstart r t n fun e => K (.val d :: e)
  | _, _, _, _ => False
theorem wstart_nil {n K} : wstart [] [] n K = K (List.replicate n .un) := rfl
theorem wstart_io {r ds t n K} : wstart (.io :: r) (.list ds :: t) n K = wstart r t n fun e => K (.own ds :: e) := rfl
theorem wstart_sc {r ds t n K} : wstart (.sc :: r) (.list ds :: t) n K = wstart r t n fun e => K (.scr ds :: e) := rfl
theorem wstart_v {r d t n K} : wstart (.v :: r) (d :: t) n K = wstart r t n fun e => K (.val d :: e) := rfl
theorem wstart_ok : ∀ {io : List Pk} {ds : List PyData} {n : Nat} {K : En → Prop}, wstart io ds n K → Ok (startE io ds n) K
  | [], [], n, K, h => ok_some.mpr h
  | .io :: r, .list ds :: t, n, K, h => ok_m (wstart_ok (show wstart r t n _ from h)) fun e he => he
  | .sc :: r, .list ds :: t, n, K, h => ok_m (wstart_ok (show wstart r t n _ from h)) fun e he => he
  | .v :: r, d :: t, n, K, h => ok_m (wstart_ok (show wstart r t n _ from h)) fun e he => he
  | [], _ :: _, _, _, h => h.elim
  | .v :: _, [], _, _, h => h.elim
  | .io :: _, [], _, _, h => h.elim
  | .sc :: _, [], _, _, h => h.elim
  | .io :: _, .none :: _, _, _, h => h.elim
  | .io :: _, .bool _ :: _, _, _, h => h.elim
  | .io :: _, .int _ :: _, _, _, h => h.elim
  | .io :: _, .str _ :: _, _, _, h => h.elim
  | .io :: _, .tuple _ :: _, _, _, h => h.elim
  | .io :: _, .dict _ :: _, _, _, h => h.elim
  | .sc :: _, .none :: _, _, _, h => h.elim
  | .sc :: _, .bool _ :: _, _, _, h => h.elim
  | .sc :: _, .int _ :: _, _, _, h => h.elim
  | .sc :: _, .str _ :: _, _, _, h => h.elim
  | .sc :: _, .tuple _ :: _, _, _, h => h.elim
  | .sc :: _, .dict _ :: _, _, _, h => h.elim
def wouts (env : En) : List Nat → (List (List PyData) → Prop) → Prop
  | [], K => K []
  | i :: is, K => wsl i env fun s => wIo s fun d => wouts env is fun ds => K (d :: ds)
theorem wouts_nil {env K} : wouts env [] K = K [] := rfl
theorem wouts_cons {env i is K} : wouts env (i :: is) K = wsl i env fun s => wIo s fun d => wouts env is fun ds => K (d :: ds) := rfl
theorem wouts_ok {env : En} : ∀ {is : List Nat} {K : List (List PyData) → Prop}, wouts env is K → Ok (outsOf env is) K
  | [], K, h => ok_some.mpr h
  | i :: is, K, h => by
    obtain ⟨s, e, h⟩ := wsl_ok (show wsl i env _ from h)
    unfold outsOf
    rw [e]
    cases s with
    | own d => exact ok_m (wouts_ok (show wouts env is _ from h)) fun ds hds => hds
    | _ => exact h.elim
def wend (f : Fl) (K : PyData × Bool → Prop) : Prop := match f with
  | .rt d fr => K (d, fr)
  | .nx => K (.none, false)
  | .bk => False
  | .ct => False
theorem wend_rt {d fr K} : wend (.rt d fr) K = K (d, fr) := rfl
theorem wend_nx {K} : wend .nx K = K (.none, false) := rfl
/-- a def's run -/
def wrun (Φ : Fns) (io : Nat → List Pk) (pk : List Pk) (n : Nat) (body : MSs) (ix : List Nat) (ds : List PyData) (Q : (PyData × Bool) × List (List PyData) → Prop) : Prop :=
  wstart pk ds n fun env => wss Φ io ix body env fun f e => wouts e ix fun outs => wend f fun q => Q (q, outs)
theorem wrun_ok {T : List FE} {n i : Nat} {fi : FI} {ds : List PyData} {Q : (PyData × Bool) × List (List PyData) → Prop} (h : T[i]? = some (.code fi)) (h2 : fi.io.length = fi.ps.length ∧ fi.ps.length ≤ fi.N.length)
    (hw : wrun (run T n) (ioOf T) fi.io (fi.N.length - fi.ps.length) fi.body (ioIx fi.io 0) ds Q) : Ok (run T (n + 1) i ds) Q := by
  rw [run_code h]
  unfold runD
  rw [if_pos h2]
  refine ok_b (wstart_ok hw) fun env he => ok_b (wss_ok _ _ _ he) fun p hp => ok_b (wouts_ok hp) fun outs ho => ?_
  rcases p with ⟨f, e⟩
  cases f with
  | rt d fr => exact ok_some.mpr ho
  | nx => exact ok_some.mpr ho
  | bk => exact ho.elim
  | ct => exact ho.elim
/-- .. with all that is known of the def told -/
def wdef (Φ : Fns) (io : Nat → List Pk) (pk : List Pk) (us : List Sl) (ix : List Nat) (body : MSs) (ds : List PyData) (Q : (PyData × Bool) × List (List PyData) → Prop) : Prop :=
  wstart pk ds 0 fun env => wss Φ io ix body (env ++ us) fun f e => wouts e ix fun outs => wend f fun q => Q (q, outs)
theorem wstart_un : ∀ {io : List Pk} {ds : List PyData} {n : Nat} {K : En → Prop}, (wstart io ds 0 fun env => K (env ++ List.replicate n .un)) → wstart io ds n K
  | [], [], n, K, h => h
  | .io :: r, .list ds :: t, n, K, h => wstart_un (K := fun e => K (.own ds :: e)) h
  | .sc :: r, .list ds :: t, n, K, h => wstart_un (K := fun e => K (.scr ds :: e)) h
  | .v :: r, d :: t, n, K, h => wstart_un (K := fun e => K (.val d :: e)) h
  | [], _ :: _, _, _, h => h.elim
  | .v :: _, [], _, _, h => h.elim
  | .io :: _, [], _, _, h => h.elim
  | .sc :: _, [], _, _, h => h.elim
  | .io :: _, .none :: _, _, _, h => h.elim
  | .io :: _, .bool _ :: _, _, _, h => h.elim
  | .io :: _, .int _ :: _, _, _, h => h.elim
  | .io :: _, .str _ :: _, _, _, h => h.elim
  | .io :: _, .tuple _ :: _, _, _, h => h.elim
  | .io :: _, .dict _ :: _, _, _, h => h.elim
  | .sc :: _, .none :: _, _, _, h => h.elim
  | .sc :: _, .bool _ :: _, _, _, h => h.elim
  | .sc :: _, .int _ :: _, _, _, h => h.elim
  | .sc :: _, .str _ :: _, _, _, h => h.elim
  | .sc :: _, .tuple _ :: _, _, _, h => h.elim
  | .sc :: _, .dict _ :: _, _, _, h => h.elim
theorem wdef_ok {T : List FE} {n i : Nat} {fi : FI} {pk : List Pk} {us : List Sl} {ix : List Nat} {ds : List PyData} {Q : (PyData × Bool) × List (List PyData) → Prop} (h : T[i]? = some (.code fi)) (h2 : fi.io.length = fi.ps.length ∧ fi.ps.length ≤ fi.N.length)
    (e1 : fi.io = pk) (e2 : List.replicate (fi.N.length - fi.ps.length) Sl.un = us) (e3 : ioIx fi.io 0 = ix) (hw : wdef (run T n) (ioOf T) pk us ix fi.body ds Q) : Ok (run T (n + 1) i ds) Q := by
  subst e1 e2 e3
  exact wrun_ok h h2 (wstart_un hw)
end
end Mi

set_option maxHeartbeats 2000000
/-! W5: loops and comprehensions, walked. -/
namespace Mi
open PySem PySem.Spec PyProof.Rows L2
theorem wd {P : Prop} {i : Decidable P} {A B : Prop} (h1 : P → A) (h2 : ¬P → B) : wite (decide P) A B := by
  rw [wite_dec]; exact ⟨h1, h2⟩
theorem wb {b : Bool} {A B : Prop} (h1 : b = true → A) (h2 : b = false → B) : wite b A B := by
  rw [wite_bool]; exact ⟨h1, h2⟩
theorem wdn {P : Prop} {i : Decidable P} {A B : Prop} (h1 : ¬P → A) (h2 : P → B) : wite (!decide P) A B := by
  rw [wite_ndec]; exact ⟨h2, h1⟩
theorem wt {b : Bool} {A B : Prop} (h : b = true) (h1 : A) : wite b A B := by subst h; exact h1
theorem wf {b : Bool} {A B : Prop} (h : b = false) (h1 : B) : wite b A B := by subst h; exact h1
def wvals : List Nat → List PyData → En → (En → Prop) → Prop
  | [], [], env, K => K env
  | i :: is, d :: ds, env, K => wset i (.val d) env fun e => wvals is ds e K
  | [], _ :: _, _, _ => False
  | _ :: _, [], _, _ => False
theorem wvals_ok : ∀ {is : List Nat} {ds : List PyData} {env : En} {K : En → Prop}, wvals is ds env K → Ok (setVals is ds env) K
  | [], [], _, _, h => ok_some.mpr h
  | i :: is, d :: ds, env, K, h => wvals_ok (is := is) (ds := ds) (wset_ok (show wset i (.val d) env (fun e => wvals is ds e K) from h)).2
  | [], _ :: _, _, _, h => h.elim
  | _ :: _, [], _, _, h => h.elim
/-- the targets of a loop -/
def wbd (g : MG) (d : PyData) (env : En) (K : En → Prop) : Prop := match g with
  | .nm i => wset i (.val d) env K
  | .tp is => match d with
    | .tuple ds => wvals is ds env K
    | _ => False
theorem wbd_ok {g : MG} {d : PyData} {env : En} {K : En → Prop} (h : wbd g d env K) : Ok (bindT g d env) K := by
  cases g with
  | nm i => exact ok_some.mpr (wset_ok (show wset i (.val d) env K from h)).2
  | tp is =>
    cases d with
    | tuple ds => exact wvals_ok h
    | _ => exact h.elim
/-- what a turn of a loop leaves -/
def wturn (N : En → Prop) (Q : Fl × En → Prop) (f : Fl) (e : En) : Prop := match f with
  | .nx => N e
  | .ct => N e
  | .bk => Q (.nx, e)
  | .rt d fr => Q (.rt d fr, e)
section
variable {Φ : Fns} {io : Nat → List Pk} {ro : List Nat} {g : MG}
def weC (Φ : Fns) (io : Nat → List Pk) (c : MO) (env : En) (Q : Bool → En → Prop) : Prop := match c with
  | .no => Q true env
  | .so a => wopd a env (we Φ io a env) fun o e => wrd o e fun d => wtr d fun t => Q t e
theorem weC_ok {c : MO} {env : En} {Q : Bool → En → Prop} (h : weC Φ io c env Q) : Ok (evC Φ io c env) fun p => Q p.1 p.2 := by
  cases c with
  | no => exact ok_some.mpr h
  | so a => rw [evC_so]; exact tst_ok (we_ok a) h
/-- a loop by what stands at each turn -/
theorem w_for {b : MSs} {xs : List PyData} {env : En} {Q : Fl × En → Prop} (I : Nat → En → Prop) (h0 : I 0 env)
    (hs : ∀ k x env, xs[k]? = some x → I k env → wbd g x env fun e1 => wss Φ io ro b e1 (wturn (I (k + 1)) Q))
    (hq : ∀ env, I xs.length env → Q (.nx, env)) : Ok (forS Φ io ro g b xs env) Q :=
  ok_for I h0 (fun k x env h1 h2 => (wbd_ok (hs k x env h1 h2)).mono fun e1 h3 => (wss_ok _ _ _ h3).mono fun p hp => by
    rcases p with ⟨f, e⟩
    cases f <;> exact hp) hq
/-- .. by what stands behind what has been gone through -/
theorem w_forL {b : MSs} {xs : List PyData} {env : En} {Q : Fl × En → Prop} (I : List PyData → En → Prop) (h0 : I [] env)
    (hs : ∀ pre x post env, xs = pre ++ x :: post → I pre env → wbd g x env fun e1 => wss Φ io ro b e1 (wturn (I (pre ++ [x])) Q))
    (hq : ∀ env, I xs env → Q (.nx, env)) : Ok (forS Φ io ro g b xs env) Q := by
  refine w_for (fun k env => I (xs.take k) env) (by simpa using h0) (fun k x env hx hi => ?_) fun env h => hq env (by simpa using h)
  obtain ⟨hk, e⟩ := List.getElem?_eq_some_iff.mp hx
  have h1 : xs.take (k + 1) = xs.take k ++ [x] := by rw [List.take_add_one, hx]; rfl
  rw [h1]
  exact hs (xs.take k) x (xs.drop (k + 1)) env (by rw [← e, List.getElem_cons_drop, List.take_append_drop]) hi
theorem w_map {vs : List Nat} {e : ME} {xs : List PyData} {env env' : En} (f : PyData → PyData) (hw : wipeE env vs = env') (hl : xs.length ≤ lim)
    (h : ∀ x ∈ xs, wbd g x env' fun e1 => we Φ io e e1 fun d e3 => d = f x ∧ wipeE e3 vs = env') :
    compS Φ io vs g .no e xs env = some (.list (xs.map f), env) := by
  subst hw
  refine compS_map f hl fun x hx => ?_
  obtain ⟨env1, h1, h2⟩ := ok_iff.mp (wbd_ok (h x hx))
  obtain ⟨⟨d, e3⟩, h3, h4, h5⟩ := ok_iff.mp (we_ok _ _ _ h2)
  cases h4
  exact ⟨env1, e3, h1, h3, h5⟩
theorem w_fil {vs : List Nat} {c : MO} {e : ME} {xs : List PyData} {env env' : En} (f : PyData → Option PyData) (hw : wipeE env vs = env') (hl : xs.length ≤ lim)
    (h : ∀ x ∈ xs, wbd g x env' fun e1 => weC Φ io c e1 fun t e2 => wite t (we Φ io e e2 fun d e3 => f x = some d ∧ wipeE e3 vs = env') (f x = none ∧ wipeE e2 vs = env')) :
    compS Φ io vs g c e xs env = some (.list (xs.filterMap f), env) := by
  subst hw
  refine compS_eq f hl fun x hx => ?_
  obtain ⟨env1, h1, h2⟩ := ok_iff.mp (wbd_ok (h x hx))
  obtain ⟨⟨t, e2⟩, h3, h4⟩ := ok_iff.mp (weC_ok h2)
  refine ⟨env1, e2, t, h1, h3, fun z => ?_, fun z => ?_⟩
  · subst z
    obtain ⟨⟨d, e3⟩, h5, h6, h7⟩ := ok_iff.mp (we_ok _ _ _ h4)
    exact ⟨d, e3, h5, h6, h7⟩
  · subst z; exact h4
theorem w_comp {vs : List Nat} {e : ME} {xs : List PyData} {env : En} {Q : PyData × En → Prop} (I : List PyData → En → Prop) (hl : xs.length ≤ lim) (h0 : I [] env)
    (hs : ∀ acc x en, xs[acc.length]? = some x → I acc en → wbd g x (wipeE en vs) fun e1 => we Φ io e e1 fun d e2 => I (acc ++ [d]) e2)
    (hq : ∀ acc en, acc.length = xs.length → I acc en → Q (.list acc, backE env en vs)) : Ok (compS Φ io vs g .no e xs env) Q :=
  ok_comp I hl h0 (fun acc x en h1 h2 => (wbd_ok (hs acc x en h1 h2)).mono fun e1 h3 => (we_ok _ _ _ h3).mono fun p hp => hp) hq
end
/-! ### data -/
theorem wBools_map {α : Type} (p : α → Bool) : ∀ xs : List α, allBools (xs.map fun x => .bool (p x)) = some (xs.map p)
  | [] => rfl
  | x :: xs => by simp [allBools, wBools_map p xs]
theorem blt_all {α : Type} (p : α → Bool) (xs : List α) : bltD .all [.list (xs.map fun x => .bool (p x))] = some (.bool (xs.all p)) := by
  simp only [bltD, wBools_map, Option.map_some, Option.some.injEq, PyData.bool.injEq]
  simp [List.all_eq]
theorem blt_any {α : Type} (p : α → Bool) (xs : List α) : bltD .any [.list (xs.map fun x => .bool (p x))] = some (.bool (xs.any p)) := by
  simp only [bltD, wBools_map, Option.map_some, Option.some.injEq, PyData.bool.injEq]
  simp [List.any_eq]
theorem wStrs_map {α : Type} (p : α → Str) : ∀ xs : List α, allStrs (xs.map fun x => .str (p x)) = some (xs.map p)
  | [] => rfl
  | x :: xs => by simp [allStrs, wStrs_map p xs]
/-- an index within -/
theorem atI_nat {α : Type} {xs : List α} {k : Nat} {x : α} (h : xs[k]? = some x) : atI xs (k : Int) = some x := by
  obtain ⟨hk, e⟩ := List.getElem?_eq_some_iff.mp h
  unfold atI ixN
  rw [if_pos (by omega), if_pos (by omega)]
  simpa using h
theorem atI_last {α : Type} {xs : List α} {x : α} : atI (xs ++ [x]) (-1) = some x := by
  unfold atI ixN
  rw [if_neg (by omega), if_pos (by simp; omega)]
  simp
  rw [show ((-1 : Int) + ((xs.length : Int) + 1)).toNat = xs.length by omega]
  simp
theorem cut_to {α : Type} (xs : List α) (k : Nat) : cutL xs none (some (k : Int)) = xs.take k := by
  unfold cutL
  rw [HT.sIx_nat]
  simp [HT.sIx_none]
theorem cut_from {α : Type} (xs : List α) (k : Nat) : cutL xs (some (k : Int)) none = xs.drop k := by
  unfold cutL
  rw [HT.sIx_nat]
  simp [HT.sIx_none]
  apply List.ext_getElem?
  intro i
  simp only [List.getElem?_drop, List.getElem?_take]
  by_cases h : k ≤ xs.length
  · rw [Nat.min_eq_left h]
    split
    · rfl
    · rw [List.getElem?_eq_none (by omega)]
  · rw [Nat.min_eq_right (by omega)]
    rw [List.getElem?_eq_none (by omega), List.getElem?_eq_none (by omega)]
    simp
theorem cut_mid {α : Type} (xs : List α) (k m : Nat) : cutL xs (some (k : Int)) (some (m : Int)) = (xs.drop k).take (m - k) := by
  unfold cutL
  rw [HT.sIx_nat, HT.sIx_nat]
  apply List.ext_getElem?
  intro i
  simp only [List.getElem?_drop, List.getElem?_take]
  split <;> split
  · by_cases h : k ≤ xs.length
    · rw [Nat.min_eq_left h]
    · omega
  · omega
  · by_cases h : k ≤ xs.length
    · rw [List.getElem?_eq_none (by omega)]
    · rw [List.getElem?_eq_none (by omega)]
  · rfl
end Mi

set_option maxHeartbeats 2000000
/-! W6: data whose repr is not too long. -/
namespace Mi
open PySem PySem.Spec PyProof.Rows L2
def signsOk (x : Str) : Bool := x.cps.toList.all fun c => decide (c < 4294967296)
mutual
/-- integers up to B, signs that are signs -/
def okD (B : Nat) : PyData → Bool
  | .none => true
  | .bool _ => true
  | .int i => decide (i.natAbs ≤ B)
  | .str x => signsOk x
  | .list xs => okAll B xs
  | .tuple xs => okAll B xs
  | .dict kvs => okKv B kvs
def okAll (B : Nat) : List PyData → Bool
  | [] => true
  | x :: xs => okD B x && okAll B xs
def okKv (B : Nat) : List (PyData × PyData) → Bool
  | [] => true
  | (k, v) :: r => okD B k && okD B v && okKv B r
end
mutual
/-- room for the repr -/
def siz : PyData → Nat
  | .none => 5
  | .bool _ => 5
  | .int _ => 32
  | .str x => 10 * x.length + 2
  | .list xs => sizAll xs + 3
  | .tuple xs => sizAll xs + 3
  | .dict kvs => sizKv kvs + 3
def sizAll : List PyData → Nat
  | [] => 0
  | x :: xs => siz x + 2 + sizAll xs
def sizKv : List (PyData × PyData) → Nat
  | [] => 0
  | (k, v) :: r => siz k + siz v + 4 + sizKv r
end
theorem okAll_mem {B : Nat} : ∀ {xs : List PyData}, okAll B xs = true ↔ ∀ x ∈ xs, okD B x = true
  | [] => by simp [okAll]
  | x :: xs => by simp [okAll, okAll_mem (xs := xs)]
theorem okAll_append {B : Nat} {xs ys : List PyData} : okAll B (xs ++ ys) = (okAll B xs && okAll B ys) := by
  rw [Bool.eq_iff_iff, Bool.and_eq_true, okAll_mem, okAll_mem, okAll_mem]
  simp only [List.mem_append]
  exact ⟨fun h => ⟨fun x hx => h x (.inl hx), fun x hx => h x (.inr hx)⟩, fun h x hx => hx.elim (h.1 x) (h.2 x)⟩
theorem sizAll_append : ∀ (xs ys : List PyData), sizAll (xs ++ ys) = sizAll xs + sizAll ys
  | [], ys => by simp [sizAll]
  | x :: xs, ys => by rw [List.cons_append, sizAll, sizAll, sizAll_append]; omega
theorem sizAll_take_drop (xs : List PyData) (k : Nat) : sizAll (xs.take k) + sizAll (xs.drop k) = sizAll xs := by
  rw [← sizAll_append, List.take_append_drop]
theorem sizAll_reverse : ∀ (xs : List PyData), sizAll xs.reverse = sizAll xs
  | [] => rfl
  | x :: xs => by rw [List.reverse_cons, sizAll_append, sizAll_reverse, sizAll, sizAll, sizAll]; omega
theorem depthAll_append : ∀ (xs ys : List PyData), PyData.depthAll (xs ++ ys) = max (PyData.depthAll xs) (PyData.depthAll ys)
  | [], ys => by simp [PyData.depthAll]
  | x :: xs, ys => by rw [List.cons_append, PyData.depthAll, PyData.depthAll, depthAll_append, Nat.max_assoc]
theorem depthAll_le {n : Nat} : ∀ {xs : List PyData}, PyData.depthAll xs ≤ n ↔ ∀ x ∈ xs, x.depth ≤ n
  | [] => by simp [PyData.depthAll]
  | x :: xs => by
    rw [PyData.depthAll, Nat.max_le, depthAll_le (xs := xs)]
    simp
theorem piled_append (ts : List Str) (t : Str) : piled (t :: ts) = t.length + 2 + piled ts := by simp [piled]
theorem listText_le (ts : List Str) : (listText ts).length ≤ piled ts + 3 := by
  have key : ∀ (ts : List Str) (k : Nat) (acc : Str), (textFrom k acc ts).length ≤ acc.length + piled ts := by
    intro ts
    induction ts with
    | nil => intro k acc; simp [textFrom, piled]
    | cons t ts ih =>
      intro k acc
      rw [textFrom, piled_append]
      refine Nat.le_trans (ih _ _) ?_
      rw [strLen_append, strLen_append]
      have : (((if k > 0 then ", " else "" : String) : Str)).length ≤ 2 := by split <;> decide
      omega
  unfold listText
  rw [strLen_append]
  have := key ts 0 "["
  have e : (("[" : String) : Str).length = 1 := rfl
  have e2 : (("]" : String) : Str).length = 1 := rfl
  rw [e] at this
  rw [e2]
  omega
theorem tupleText_le (ts : List Str) : (tupleText ts).length ≤ piled ts + 3 := by
  unfold tupleText
  rw [strLen_append, strLen_append]
  have e1 : ((("(" : String) : Str)).length = 1 := rfl
  have e3 : (((if ts.length == 1 then ",)" else ")" : String) : Str)).length ≤ 2 := by split <;> decide
  rw [e1]
  by_cases h : ts = []
  · subst h; simp [piled, Str.join]; exact Nat.le_trans (by decide) (Nat.le_refl 3) 
  · have := join_length_add ts h
    omega
theorem dictText_le (ps : List Str) : (dictText ps).length ≤ piled ps + 3 := by
  have e : (dictText ps).length = 1 + (Str.join ", " ps).length + 1 := by
    unfold dictText
    rw [strLen_append, strLen_append]; rfl
  by_cases h : ps = []
  · subst h; exact (by decide : (dictText []).length ≤ piled [] + 3)
  · have h2 := join_length_add ps h
    omega
theorem int_small {i : Int} {B : Nat} (hB : B ≤ 10 ^ 30) (h : i.natAbs ≤ B) : i.natAbs.log2 < 1920 ∧ (Str.ofString (toString i)).length ≤ 32 := by
  have h1 : i.natAbs < 10 ^ 31 := Nat.lt_of_le_of_lt (Nat.le_trans h hB) (by decide)
  refine ⟨?_, ?_⟩
  · by_cases h0 : i.natAbs = 0
    · rw [h0]; decide
    · exact (Nat.log2_lt h0).mpr (Nat.lt_of_lt_of_le h1 (by decide +kernel))
  · have := int_text_length_le10 (by decide) h1
    have e : (Str.ofString (toString i)).length = (toString i).length := by
      rw [Str.ofString_eq_toList]
      show ((toString i).toList.map Char.toNat).toArray.size = _
      rw [List.size_toArray, List.length_map, String.length_toList]
    rw [e]; exact this
mutual
theorem shown_le {B : Nat} (hB : B ≤ 10 ^ 30) : ∀ (d : PyData), okD B d = true → d.showable = true ∧ d.shown.length ≤ siz d
  | .none, _ => ⟨by simp only [PyData.showable], by simp only [PyData.shown, siz]; decide⟩
  | .bool b, _ => ⟨by simp only [PyData.showable], by simp only [PyData.shown, siz]; cases b <;> decide⟩
  | .int i, h => by
    obtain ⟨h1, h2⟩ := int_small hB (of_decide_eq_true (by simpa only [okD] using h))
    exact ⟨by simp only [PyData.showable, h1, decide_true], by simp only [PyData.shown, siz]; exact h2⟩
  | .str x, h => ⟨by simp only [PyData.showable], by
    simp only [PyData.shown, siz]
    exact PySem.StrLaws.reprText_len x fun c hc => of_decide_eq_true (List.all_eq_true.mp (by simpa only [okD, signsOk] using h) c hc)⟩
  | .list xs, h => by
    obtain ⟨h1, h2⟩ := shownAll_le hB xs (by simpa only [okD] using h)
    refine ⟨by simpa only [PyData.showable] using h1, ?_⟩
    simp only [PyData.shown, siz]
    exact Nat.le_trans (listText_le _) (by omega)
  | .tuple xs, h => by
    obtain ⟨h1, h2⟩ := shownAll_le hB xs (by simpa only [okD] using h)
    refine ⟨by simpa only [PyData.showable] using h1, ?_⟩
    simp only [PyData.shown, siz]
    exact Nat.le_trans (tupleText_le _) (by omega)
  | .dict kvs, h => by
    obtain ⟨h1, h2⟩ := shownKv_le hB kvs (by simpa only [okD] using h)
    refine ⟨by simpa only [PyData.showable] using h1, ?_⟩
    simp only [PyData.shown, siz]
    exact Nat.le_trans (dictText_le _) (by omega)
theorem shownAll_le {B : Nat} (hB : B ≤ 10 ^ 30) : ∀ (xs : List PyData), okAll B xs = true → PyData.showableAll xs = true ∧ piled (PyData.shownAll xs) ≤ sizAll xs
  | [], _ => ⟨rfl, by simp [PyData.shownAll, piled, sizAll]⟩
  | x :: xs, h => by
    rw [okAll, Bool.and_eq_true] at h
    obtain ⟨h1, h2⟩ := shown_le hB x h.1
    obtain ⟨h3, h4⟩ := shownAll_le hB xs h.2
    refine ⟨by simp only [PyData.showableAll, h1, h3, Bool.and_self], ?_⟩
    simp only [PyData.shownAll, sizAll, piled_append]
    omega
theorem shownKv_le {B : Nat} (hB : B ≤ 10 ^ 30) : ∀ (kvs : List (PyData × PyData)), okKv B kvs = true → PyData.showableKv kvs = true ∧ piled (PyData.shownKv kvs) ≤ sizKv kvs
  | [], _ => ⟨rfl, by simp [PyData.shownKv, piled, sizKv]⟩
  | (k, v) :: r, h => by
    rw [okKv, Bool.and_eq_true, Bool.and_eq_true] at h
    obtain ⟨h1, h2⟩ := shown_le hB k h.1.1
    obtain ⟨h3, h4⟩ := shown_le hB v h.1.2
    obtain ⟨h5, h6⟩ := shownKv_le hB r h.2
    refine ⟨by simp only [PyData.showableKv, h1, h3, h5, Bool.and_self], ?_⟩
    simp only [PyData.shownKv, sizKv, piled_append]
    rw [strLen_append, strLen_append]
    have e : (((": " : String) : Str)).length = 2 := rfl
    rw [e]
    omega
end
theorem repr_ok {B : Nat} {d : PyData} (hB : B ≤ 10 ^ 30) (h : okD B d = true) (hw : siz d ≤ 16777216) (hd : d.depth ≤ 60) : reprF d = some (.str d.shown) := by
  obtain ⟨h1, h2⟩ := shown_le hB d h
  unfold reprF
  rw [if_pos ⟨h1, Nat.le_trans h2 hw, hd⟩]
end Mi

set_option maxHeartbeats 4000000
namespace K10
open PySem Mi
/-- is_integer -/
theorem w0 {n : Nat} {ds : List PyData} {Q : (PyData × Bool) × List (List PyData) → Prop} (h : wdef (run TT n) (ioOf TT) [.v] [] [] f0.body ds Q) : Ok (run TT (n + 1) 0 ds) Q := wdef_ok (fi := f0) rfl (by decide) rfl rfl rfl h
/-- is_within -/
theorem w1 {n : Nat} {ds : List PyData} {Q : (PyData × Bool) × List (List PyData) → Prop} (h : wdef (run TT n) (ioOf TT) [.v, .v, .v] [] [] f1.body ds Q) : Ok (run TT (n + 1) 1 ds) Q := wdef_ok (fi := f1) rfl (by decide) rfl rfl rfl h
/-- is_tuple -/
theorem w2 {n : Nat} {ds : List PyData} {Q : (PyData × Bool) × List (List PyData) → Prop} (h : wdef (run TT n) (ioOf TT) [.v, .v] [] [] f2.body ds Q) : Ok (run TT (n + 1) 2 ds) Q := wdef_ok (fi := f2) rfl (by decide) rfl rfl rfl h
/-- is_name_any -/
theorem w3 {n : Nat} {ds : List PyData} {Q : (PyData × Bool) × List (List PyData) → Prop} (h : wdef (run TT n) (ioOf TT) [.v] [.un] [] f3.body ds Q) : Ok (run TT (n + 1) 3 ds) Q := wdef_ok (fi := f3) rfl (by decide) rfl rfl rfl h
/-- is_label_any -/
theorem w4 {n : Nat} {ds : List PyData} {Q : (PyData × Bool) × List (List PyData) → Prop} (h : wdef (run TT n) (ioOf TT) [.v] [.un] [] f4.body ds Q) : Ok (run TT (n + 1) 4 ds) Q := wdef_ok (fi := f4) rfl (by decide) rfl rfl rfl h
/-- are_words_any -/
theorem w5 {n : Nat} {ds : List PyData} {Q : (PyData × Bool) × List (List PyData) → Prop} (h : wdef (run TT n) (ioOf TT) [.v] [.un, .un] [] f5.body ds Q) : Ok (run TT (n + 1) 5 ds) Q := wdef_ok (fi := f5) rfl (by decide) rfl rfl rfl h
/-- is_tree_row -/
theorem w6 {n : Nat} {ds : List PyData} {Q : (PyData × Bool) × List (List PyData) → Prop} (h : wdef (run TT n) (ioOf TT) [.v] [] [] f6.body ds Q) : Ok (run TT (n + 1) 6 ds) Q := wdef_ok (fi := f6) rfl (by decide) rfl rfl rfl h
/-- are_depths -/
theorem w7 {n : Nat} {ds : List PyData} {Q : (PyData × Bool) × List (List PyData) → Prop} (h : wdef (run TT n) (ioOf TT) [.v] [.un, .un] [] f7.body ds Q) : Ok (run TT (n + 1) 7 ds) Q := wdef_ok (fi := f7) rfl (by decide) rfl rfl rfl h
/-- is_tree_any -/
theorem w8 {n : Nat} {ds : List PyData} {Q : (PyData × Bool) × List (List PyData) → Prop} (h : wdef (run TT n) (ioOf TT) [.v] [.un, .un, .un] [] f8.body ds Q) : Ok (run TT (n + 1) 8 ds) Q := wdef_ok (fi := f8) rfl (by decide) rfl rfl rfl h
/-- parents_of -/
theorem w9 {n : Nat} {ds : List PyData} {Q : (PyData × Bool) × List (List PyData) → Prop} (h : wdef (run TT n) (ioOf TT) [.v] [.un, .un, .un, .un, .un, .un] [] f9.body ds Q) : Ok (run TT (n + 1) 9 ds) Q := wdef_ok (fi := f9) rfl (by decide) rfl rfl rfl h
/-- is_tree -/
theorem w10 {n : Nat} {ds : List PyData} {Q : (PyData × Bool) × List (List PyData) → Prop} (h : wdef (run TT n) (ioOf TT) [.v] [] [] f10.body ds Q) : Ok (run TT (n + 1) 10 ds) Q := wdef_ok (fi := f10) rfl (by decide) rfl rfl rfl h
/-- first_twice -/
theorem w11 {n : Nat} {ds : List PyData} {Q : (PyData × Bool) × List (List PyData) → Prop} (h : wdef (run TT n) (ioOf TT) [.v] [.un, .un, .un] [] f11.body ds Q) : Ok (run TT (n + 1) 11 ds) Q := wdef_ok (fi := f11) rfl (by decide) rfl rfl rfl h
/-- depth_flaw -/
theorem w12 {n : Nat} {ds : List PyData} {Q : (PyData × Bool) × List (List PyData) → Prop} (h : wdef (run TT n) (ioOf TT) [.v] [.un, .un] [] f12.body ds Q) : Ok (run TT (n + 1) 12 ds) Q := wdef_ok (fi := f12) rfl (by decide) rfl rfl rfl h
/-- flaw_of_tree -/
theorem w13 {n : Nat} {ds : List PyData} {Q : (PyData × Bool) × List (List PyData) → Prop} (h : wdef (run TT n) (ioOf TT) [.v] [.un, .un, .un, .un] [] f13.body ds Q) : Ok (run TT (n + 1) 13 ds) Q := wdef_ok (fi := f13) rfl (by decide) rfl rfl rfl h
/-- tree_flaw -/
theorem w14 {n : Nat} {ds : List PyData} {Q : (PyData × Bool) × List (List PyData) → Prop} (h : wdef (run TT n) (ioOf TT) [.v] [] [] f14.body ds Q) : Ok (run TT (n + 1) 14 ds) Q := wdef_ok (fi := f14) rfl (by decide) rfl rfl rfl h
/-- _law_pot -/
theorem w15 {n : Nat} {ds : List PyData} {Q : (PyData × Bool) × List (List PyData) → Prop} (h : wdef (run TT n) (ioOf TT) [.sc, .v] [.un] [] f15.body ds Q) : Ok (run TT (n + 1) 15 ds) Q := wdef_ok (fi := f15) rfl (by decide) rfl rfl rfl h
/-- _law_draw -/
theorem w16 {n : Nat} {ds : List PyData} {Q : (PyData × Bool) × List (List PyData) → Prop} (h : wdef (run TT n) (ioOf TT) [.io, .v] [.un] [0] f16.body ds Q) : Ok (run TT (n + 1) 16 ds) Q := wdef_ok (fi := f16) rfl (by decide) rfl rfl rfl h
/-- _law_pick -/
theorem w17 {n : Nat} {ds : List PyData} {Q : (PyData × Bool) × List (List PyData) → Prop} (h : wdef (run TT n) (ioOf TT) [.io, .v] [] [0] f17.body ds Q) : Ok (run TT (n + 1) 17 ds) Q := wdef_ok (fi := f17) rfl (by decide) rfl rfl rfl h
/-- _law_words -/
theorem w18 {n : Nat} {ds : List PyData} {Q : (PyData × Bool) × List (List PyData) → Prop} (h : wdef (run TT n) (ioOf TT) [.io] [.un] [0] f18.body ds Q) : Ok (run TT (n + 1) 18 ds) Q := wdef_ok (fi := f18) rfl (by decide) rfl rfl rfl h
/-- _law_tree -/
theorem w19 {n : Nat} {ds : List PyData} {Q : (PyData × Bool) × List (List PyData) → Prop} (h : wdef (run TT n) (ioOf TT) [.io, .v] [.un, .un, .un, .un, .un, .un] [0] f19.body ds Q) : Ok (run TT (n + 1) 19 ds) Q := wdef_ok (fi := f19) rfl (by decide) rfl rfl rfl h
/-- _law_is_plain -/
theorem w20 {n : Nat} {ds : List PyData} {Q : (PyData × Bool) × List (List PyData) → Prop} (h : wdef (run TT n) (ioOf TT) [.v, .v, .v] [.un] [] f20.body ds Q) : Ok (run TT (n + 1) 20 ds) Q := wdef_ok (fi := f20) rfl (by decide) rfl rfl rfl h
/-- _law_is_name -/
theorem w21 {n : Nat} {ds : List PyData} {Q : (PyData × Bool) × List (List PyData) → Prop} (h : wdef (run TT n) (ioOf TT) [.v] [] [] f21.body ds Q) : Ok (run TT (n + 1) 21 ds) Q := wdef_ok (fi := f21) rfl (by decide) rfl rfl rfl h
/-- _law_are_words -/
theorem w22 {n : Nat} {ds : List PyData} {Q : (PyData × Bool) × List (List PyData) → Prop} (h : wdef (run TT n) (ioOf TT) [.v] [.un] [] f22.body ds Q) : Ok (run TT (n + 1) 22 ds) Q := wdef_ok (fi := f22) rfl (by decide) rfl rfl rfl h
/-- _law_is_row -/
theorem w23 {n : Nat} {ds : List PyData} {Q : (PyData × Bool) × List (List PyData) → Prop} (h : wdef (run TT n) (ioOf TT) [.v] [] [] f23.body ds Q) : Ok (run TT (n + 1) 23 ds) Q := wdef_ok (fi := f23) rfl (by decide) rfl rfl rfl h
/-- _law_bent -/
theorem w25 {n : Nat} {ds : List PyData} {Q : (PyData × Bool) × List (List PyData) → Prop} (h : wdef (run TT n) (ioOf TT) [.io, .v] [.un, .un, .un] [0] f25.body ds Q) : Ok (run TT (n + 1) 25 ds) Q := wdef_ok (fi := f25) rfl (by decide) rfl rfl rfl h
/-- _law_edges -/
theorem w26 {n : Nat} {ds : List PyData} {Q : (PyData × Bool) × List (List PyData) → Prop} (h : wdef (run TT n) (ioOf TT) [.v] [.un, .un, .un, .un, .un, .un] [] f26.body ds Q) : Ok (run TT (n + 1) 26 ds) Q := wdef_ok (fi := f26) rfl (by decide) rfl rfl rfl h
/-- _law_value_right -/
theorem w27 {n : Nat} {ds : List PyData} {Q : (PyData × Bool) × List (List PyData) → Prop} (h : wdef (run TT n) (ioOf TT) [.v] [.un, .un] [] f27.body ds Q) : Ok (run TT (n + 1) 27 ds) Q := wdef_ok (fi := f27) rfl (by decide) rfl rfl rfl h
/-- _law_right -/
theorem w28 {n : Nat} {ds : List PyData} {Q : (PyData × Bool) × List (List PyData) → Prop} (h : wdef (run TT n) (ioOf TT) [.io] [.un, .un, .un, .un] [0] f28.body ds Q) : Ok (run TT (n + 1) 28 ds) Q := wdef_ok (fi := f28) rfl (by decide) rfl rfl rfl h
/-- law -/
theorem w29 {n : Nat} {ds : List PyData} {Q : (PyData × Bool) × List (List PyData) → Prop} (h : wdef (run TT n) (ioOf TT) [.sc] [.un, .un] [] f29.body ds Q) : Ok (run TT (n + 1) 29 ds) Q := wdef_ok (fi := f29) rfl (by decide) rfl rfl rfl h
end K10

set_option maxHeartbeats 4000000
/-! k10: names, labels, words, rows: what the program and the law's own look make of any value. -/
namespace Mi
open PySem
theorem str_ext {x y : Str} (h : x.cps.toList = y.cps.toList) : x = y := by
  rcases x with ⟨⟨a⟩⟩; rcases y with ⟨⟨b⟩⟩
  have h : a = b := h
  subst h; rfl
def let_ (c : Nat) : Bool := decide (97 ≤ c) && decide (c ≤ 122)
def sgn (c : Nat) : Bool := (decide (97 ≤ c) && decide (c ≤ 122)) || (decide (48 ≤ c) && decide (c ≤ 57))
theorem letters_eq : ("abcdefghijklmnopqrstuvwxyz" : Str).cps.toList = List.range' 97 26 := by decide +kernel
theorem signs_eq : ("abcdefghijklmnopqrstuvwxyz0123456789" : Str).cps.toList = List.range' 97 26 ++ List.range' 48 10 := by decide +kernel
theorem in_letters (c : Nat) : inD (.str ⟨#[c]⟩) (.str "abcdefghijklmnopqrstuvwxyz") = some (let_ c) := by
  show some (decide (c ∈ ("abcdefghijklmnopqrstuvwxyz" : Str).cps.toList)) = _
  rw [letters_eq]
  simp only [List.mem_range'_1, let_]
  congr 1
  rw [← Bool.decide_and]
  congr 1
  exact propext ⟨fun h => by omega, fun h => by omega⟩
theorem in_signs (c : Nat) : inD (.str ⟨#[c]⟩) (.str "abcdefghijklmnopqrstuvwxyz0123456789") = some (sgn c) := by
  show some (decide (c ∈ ("abcdefghijklmnopqrstuvwxyz0123456789" : Str).cps.toList)) = _
  rw [signs_eq]
  simp only [List.mem_append, List.mem_range'_1, sgn]
  congr 1
  rw [← Bool.decide_and, ← Bool.decide_and, ← Bool.decide_or]
  congr 1
  exact propext ⟨fun h => by omega, fun h => by omega⟩
def plainB (lo hi : Nat) (x : Str) : Bool := decide (lo ≤ x.length) && decide (x.length ≤ hi) && x.cps.toList.all sgn
def nameB (x : Str) : Bool := plainB 1 8 x && let_ (x.cps.toList.headD 0)
def wordsB (x : Str) : Bool := decide (x.length ≤ 120) && (decide (x.length = 0) || (Txt.split x " ").all fun p => decide (1 ≤ p.length) && p.cps.toList.all sgn)
def nameD : PyData → Bool
  | .str x => nameB x
  | _ => false
def labelD : PyData → Bool
  | .str x => plainB 1 4 x
  | _ => false
def wordsD : PyData → Bool
  | .str x => wordsB x
  | _ => false
def depthD : PyData → Bool
  | .int i => decide (0 ≤ i) && decide (i ≤ 6)
  | _ => false
def rowD : PyData → Bool
  | .tuple [a, b, c, d] => nameD a && depthD b && labelD c && wordsD d
  | _ => false
def isInt : PyData → Bool
  | .int _ => true
  | _ => false
def withinD (v : PyData) (a b : Int) : Bool := match v with
  | .int i => decide (a ≤ i) && decide (i ≤ b)
  | _ => false
def tupN (v : PyData) (k : Nat) : Bool := match v with
  | .tuple ds => decide (ds.length = k)
  | _ => false
end Mi
namespace Mi
open PySem
theorem fin {d d' : PyData} (h : d = d') : ((d, false), ([] : List (List PyData))) = ((d', false), []) := by rw [h]
theorem finb {d d' : Bool} (h : d = d') : ((PyData.bool d, false), ([] : List (List PyData))) = ((.bool d', false), []) := by rw [h]
theorem le_sum_of_mem : ∀ {l : List Nat} {a : Nat}, a ∈ l → a ≤ l.sum
  | b :: l, a, h => by
    rw [List.sum_cons]
    rcases List.mem_cons.mp h with h | h
    · omega
    · have := le_sum_of_mem h; omega
end Mi
namespace K10
open PySem Mi L2
local macro_rules | `(tactic| array_get_dec) => `(tactic| (conv => whnf); repeat (first | refine ⟨_, rfl, ?_⟩ | refine ⟨rfl, ?_⟩ | refine ⟨Nat.le_of_ble_eq_true rfl, ?_⟩); (conv => whnf))
local macro_rules | `(tactic| array_mem_dec) => `(tactic| (first | refine wd ?_ ?_ | refine wdn ?_ ?_ | refine wb ?_ ?_))

theorem r0 (n : Nat) (v : PyData) : run TT (n + 1) 0 [v] = some ((.bool (isInt v), false), []) := by
  refine (w0 ?_).eq
  cases v <;> array_get_dec <;> rfl
theorem r1 (n : Nat) (v : PyData) (a b : Int) : run TT (n + 2) 1 [v, .int a, .int b] = some ((.bool (withinD v a b), false), []) := by
  refine (w1 ?_).eq
  cases v <;> (array_get_dec; refine ok_of (r0 ..) ?_; array_get_dec)
  case int i =>
    refine wd (fun h => ?_) (fun h => ?_) <;> array_get_dec <;> simp [h, frME, withinD]
  all_goals rfl
theorem eqv_int (i j : Int) : PyData.eqv (.int i) (.int j) = decide (i = j) := by
  simp only [PyData.eqv]
  by_cases h : i = j <;> simp [h]
theorem r2 (n : Nat) (v : PyData) (k : Nat) : run TT (n + 1) 2 [v, .int k] = some ((.bool (tupN v k), false), []) := by
  refine (w2 ?_).eq
  cases v <;> array_get_dec
  case tuple ds =>
    simp only [tupN, frME, eqv_int]
    simp
    omega
  all_goals rfl
theorem comp_signs {n : Nat} {vs : List Nat} {i : Nat} {env env' : En} {s : Str} (x : Str) (hx : x.length ≤ lim) (hw : wipeE env vs = env') (h : ∀ c : Nat, wbd (.nm i) (.str ⟨#[c]⟩) env' fun e1 => we (run TT n) (ioOf TT) (.cmp .In (.var i) (.glo s (.str "abcdefghijklmnopqrstuvwxyz0123456789"))) e1 fun d e3 => d = .bool (sgn c) ∧ wipeE e3 vs = env') :
    compS (run TT n) (ioOf TT) vs (.nm i) .no (.cmp .In (.var i) (.glo s (.str "abcdefghijklmnopqrstuvwxyz0123456789"))) (strSigns x) env = some (.list (x.cps.toList.map fun c => .bool (sgn c)), env) := by
  rw [w_map (fun d => match d with | .str ⟨⟨[c]⟩⟩ => .bool (sgn c) | _ => .none) hw (by simpa [strSigns, Str.length] using hx) fun y hy => ?_]
  · unfold strSigns
    rw [List.map_map]; rfl
  · obtain ⟨c, _, rfl⟩ := List.mem_map.mp hy
    exact h c
theorem r3 (n : Nat) (v : PyData) : run TT (n + 1) 3 [v] = some ((.bool (nameD v), false), []) := by
  refine (w3 ?_).eq
  cases v <;> array_get_dec
  case str x =>
    obtain ⟨⟨l⟩⟩ := x
    array_mem_dec <;> intro h1 <;> array_get_dec
    · array_mem_dec <;> intro h2 <;> array_get_dec
      · have e : nameD (.str ⟨⟨l⟩⟩) = false := by
          simp [nameD, nameB, plainB, Str.length] at h2 ⊢
          omega
        rw [e]; rfl
      · cases l with
        | nil => exact absurd h1 (by decide)
        | cons c l =>
          refine ⟨.str ⟨#[c]⟩, by simp [idxD, atI, ixN], ?_⟩
          array_get_dec
          refine ok_of (in_letters c) ?_
          array_get_dec
          array_mem_dec <;> intro h3 <;> array_get_dec
          · have e : nameD (.str ⟨⟨c :: l⟩⟩) = false := by
              have h3 : let_ c = false := by simpa using h3
              simp [nameD, nameB, h3]
            rw [e]; rfl
          · refine ok_of (comp_signs _ ?_ rfl fun c => ?_) ?_
            · have := h2
              simp [Str.length, lim] at this ⊢
              omega
            · array_get_dec
              refine ok_of (in_signs c) ?_
              array_get_dec
              exact rfl
            · array_get_dec
              refine ⟨_, blt_all sgn _, ?_⟩
              array_get_dec
              have h3 : let_ c = true := by simpa using h3
              have h2 : l.length + 1 ≤ 8 := by
                simp [Str.length] at h2
                omega
              have e : nameD (.str ⟨⟨c :: l⟩⟩) = (c :: l).all sgn := by
                simp [nameD, nameB, h3, plainB, Str.length, h2]
              rw [e]; rfl
    · have e : nameD (.str ⟨⟨l⟩⟩) = false := by
        simp [nameD, nameB, plainB, Str.length] at h1 ⊢
        omega
      rw [e]; rfl
  all_goals rfl
theorem r4 (n : Nat) (v : PyData) : run TT (n + 1) 4 [v] = some ((.bool (labelD v), false), []) := by
  refine (w4 ?_).eq
  cases v <;> array_get_dec
  case str x =>
    array_mem_dec <;> intro h1 <;> array_get_dec
    · array_mem_dec <;> intro h2 <;> array_get_dec
      · refine ok_of (comp_signs _ ?_ rfl fun c => ?_) ?_
        · have h2 : (x.length : Int) ≤ 4 := h2
          show x.length ≤ 16777216
          omega
        · array_get_dec
          refine ok_of (in_signs c) ?_
          array_get_dec
          exact rfl
        · array_get_dec
          refine ⟨_, blt_all sgn _, ?_⟩
          array_get_dec
          have e : labelD (.str x) = x.cps.toList.all sgn := by
            have h1 : (1 : Int) ≤ x.length := h1
            have h2 : (x.length : Int) ≤ 4 := h2
            simp [labelD, plainB, show 1 ≤ x.length by omega, show x.length ≤ 4 by omega]
          rw [e]; rfl
      · have e : labelD (.str x) = false := by
          have h2 : ¬ (x.length : Int) ≤ 4 := h2
          simp [labelD, plainB, show ¬x.length ≤ 4 by omega]
        rw [e]; rfl
    · have e : labelD (.str x) = false := by
        have h1 : ¬ 1 ≤ x.length := fun h => h1 (Int.ofNat_le.mpr h)
        simp only [labelD, plainB, decide_eq_false h1, Bool.false_and]
      rw [e]; rfl
  all_goals rfl
theorem eqv_str (x y : Str) : PyData.eqv (.str x) (.str y) = (x == y) := by simp only [PyData.eqv]
theorem len0 {x : Str} : x.length = 0 ↔ x = "" := by
  constructor
  · intro h
    apply str_ext
    have h : x.cps.toList.length = 0 := by simpa [Str.length] using h
    rw [List.length_eq_zero_iff] at h
    rw [h]; decide
  · intro h; subst h; decide
theorem part_le {x p : Str} (h : p ∈ Txt.split x " ") : p.length ≤ x.length := by
  have h1 := PyProof.Rows.split_weight x " " (by decide)
  have h2 : p.length ≤ ((Txt.split x " ").map (·.length)).sum := le_sum_of_mem (List.mem_map.mpr ⟨p, h, rfl⟩)
  have h3 : 1 ≤ (Txt.split x " ").length := List.length_pos_of_mem h
  omega
theorem r5 (n : Nat) (v : PyData) : run TT (n + 1) 5 [v] = some ((.bool (wordsD v), false), []) := by
  refine (w5 ?_).eq
  cases v <;> array_get_dec
  case str x =>
    array_mem_dec <;> intro h1 <;> array_get_dec
    · have e : wordsD (.str x) = false := by
        have h1 : (120 : Int) < x.length := h1
        simp [wordsD, wordsB, show ¬x.length ≤ 120 by omega]
      rw [e]; rfl
    · have h1 : x.length ≤ 120 := by
        have h1 : ¬ (120 : Int) < x.length := h1
        omega
      array_mem_dec <;> intro h2 <;> array_get_dec
      · have e : wordsD (.str x) = true := by
          subst h2; decide
        rw [e]; rfl
      · refine ⟨.list ((Txt.split x " ").map .str), by
          simp only [metD]
          rw [if_pos ⟨by decide, by show x.length + 2 ≤ 16777216; omega⟩], ?_⟩
        array_get_dec
        refine ok_of (w_map (fun d => .bool (match d with | .str p => decide (1 ≤ p.length) && p.cps.toList.all sgn | _ => false)) rfl ?_ fun y hy => ?_) ?_
        · have h3 := PyProof.Rows.split_weight x " " (by decide)
          rw [List.length_map]
          show _ ≤ 16777216
          omega
        · obtain ⟨p, hp, rfl⟩ := List.mem_map.mp hy
          have hl := part_le hp
          have hp0 : decide (1 ≤ p.length) = !(p == "") := by
            by_cases h : p.length = 0
            · have := len0.mp h; subst this; decide
            · have h' : ¬ p = "" := fun e => h (len0.mpr e)
              simp [h', show 1 ≤ p.length by omega]
          array_get_dec
          array_mem_dec <;> intro h3 <;> array_get_dec
          · refine ok_of (comp_signs _ ?_ rfl fun c => ?_) ?_
            · show p.length ≤ 16777216
              omega
            · array_get_dec
              refine ok_of (in_signs c) ?_
              array_get_dec
              exact rfl
            · array_get_dec
              refine ⟨_, blt_all sgn _, ?_⟩
              array_get_dec
              refine ⟨?_, rfl⟩
              show PyData.bool _ = PyData.bool _
              dsimp only
              rw [hp0]; simp [h3]
          · refine ⟨?_, rfl⟩
            dsimp only
            rw [hp0]; simp [h3]
        · array_get_dec
          rw [List.map_map]
          refine ⟨_, blt_all (fun p : Str => decide (1 ≤ p.length) && p.cps.toList.all sgn) _, ?_⟩
          array_get_dec
          have e : wordsD (.str x) = (Txt.split x " ").all fun p => decide (1 ≤ p.length) && p.cps.toList.all sgn := by
            have hx : ¬ x.length = 0 := fun h => h2 (len0.mp h)
            simp only [wordsD, wordsB, h1, hx, decide_true, decide_false, Bool.true_and, Bool.false_or]
          rw [e]; rfl
  all_goals rfl
theorem r6 (n : Nat) (v : PyData) : run TT (n + 3) 6 [v] = some ((.bool (rowD v), false), []) := by
  refine (w6 ?_).eq
  array_get_dec
  refine ok_of (r2 _ v 4) ?_
  array_get_dec
  array_mem_dec <;> intro h1 <;> array_get_dec
  · have e : rowD v = false := by
      unfold rowD
      split
      · simp [tupN] at h1
      · rfl
    rw [e]; rfl
  · cases v with
    | tuple ds =>
      obtain ⟨a, b, c, d, rfl⟩ : ∃ a b c d, ds = [a, b, c, d] := by
        simp [tupN] at h1
        match ds, h1 with
        | [a, b, c, d], _ => exact ⟨a, b, c, d, rfl⟩
      array_get_dec
      refine ok_of (r3 _ a) ?_
      array_get_dec
      array_mem_dec <;> intro h2 <;> array_get_dec
      · exact finb (by simp at h2; simp [rowD, h2])
      · refine ok_of (r1 _ b 0 6) ?_
        array_get_dec
        array_mem_dec <;> intro h3 <;> array_get_dec
        · exact finb (by
            rw [show withinD b 0 6 = depthD b from by cases b <;> rfl] at h3
            simp at h3; simp [rowD, h3])
        · rw [show withinD b 0 6 = depthD b from by cases b <;> rfl] at h3
          refine ok_of (r4 _ c) ?_
          array_get_dec
          array_mem_dec <;> intro h4 <;> array_get_dec
          · refine ok_of (r5 _ d) ?_
            array_get_dec
            exact finb (by simp at h2 h3; simp [rowD, h2, h3, h4])
          · exact finb (by simp [rowD, h4])
    | _ => cases h1
end K10

set_option maxHeartbeats 4000000
/-! k10: the law's own look at names, labels, words, rows. -/
namespace Mi
open PySem
theorem lt1 {c d : Nat} : (([c] : List Nat) < [d]) ↔ c < d := by
  constructor
  · intro h
    cases h with
    | rel h => exact h
    | cons h => cases h
  · exact fun h => .rel h
def plainD (lo hi : Nat) : PyData → Bool
  | .str x => plainB lo hi x
  | _ => false
end Mi
namespace K10
open PySem Mi L2
local macro_rules | `(tactic| array_get_dec) => `(tactic| (conv => whnf); repeat (first | refine ⟨_, rfl, ?_⟩ | refine ⟨rfl, ?_⟩ | refine ⟨Nat.le_of_ble_eq_true rfl, ?_⟩); (conv => whnf))
local macro_rules | `(tactic| array_mem_dec) => `(tactic| (first | refine wd ?_ ?_ | refine wdn ?_ ?_ | refine wb ?_ ?_))

theorem r20 (n : Nat) (v : PyData) (lo hi : Nat) (hhi : hi ≤ 120) : run TT (n + 1) 20 [v, .int lo, .int hi] = some ((.bool (plainD lo hi v), false), []) := by
  refine (w20 ?_).eq
  cases v <;> array_get_dec
  case str x =>
    array_mem_dec <;> intro h1 <;> array_get_dec
    · array_mem_dec <;> intro h2 <;> array_get_dec
      · have h2 : ¬ (x.length : Int) ≤ hi := h2
        exact finb (by simp [plainD, plainB, show ¬ x.length ≤ hi by omega])
      · have h1 : (lo : Int) ≤ x.length := h1
        have h2 : (x.length : Int) ≤ hi := h2
        refine ok_of (w_map (fun d => match d with | .str ⟨⟨[c]⟩⟩ => .bool (sgn c) | _ => .none) rfl ?_ fun y hy => ?_) ?_
        · show (x.cps.toList.map _).length ≤ 16777216
          rw [List.length_map]
          show x.length ≤ _
          omega
        · obtain ⟨c, _, rfl⟩ := List.mem_map.mp hy
          array_get_dec
          array_mem_dec <;> intro h3 <;> array_get_dec
          · have h3 : ¬ ([c] : List Nat) < [97] := h3
            rw [lt1] at h3
            array_mem_dec <;> intro h4 <;> array_get_dec
            · have h4 : ¬ ([122] : List Nat) < [c] := h4
              rw [lt1] at h4
              exact ⟨by simp [sgn, show 97 ≤ c by omega, show c ≤ 122 by omega], rfl⟩
            · have h4 : ([122] : List Nat) < [c] := h4
              rw [lt1] at h4
              array_mem_dec <;> intro h5 <;> array_get_dec
              · have h5 : ¬ ([c] : List Nat) < [48] := h5
                refine ⟨?_, rfl⟩
                show PyData.bool (!decide (([57] : List Nat) < [c])) = _
                simp only [lt1] at h5 ⊢
                simp [sgn, show ¬ c ≤ 122 by omega, show ¬ c ≤ 57 by omega, show 57 < c by omega]
              · have h5 : ([c] : List Nat) < [48] := h5
                rw [lt1] at h5
                omega
          · have h3 : ([c] : List Nat) < [97] := h3
            rw [lt1] at h3
            array_mem_dec <;> intro h5 <;> array_get_dec
            · have h5 : ¬ ([c] : List Nat) < [48] := h5
              rw [lt1] at h5
              refine ⟨?_, rfl⟩
              show PyData.bool (!decide (([57] : List Nat) < [c])) = _
              simp only [sgn, lt1, show ¬ 97 ≤ c by omega, show 48 ≤ c by omega]
              by_cases h : 57 < c
              · simp [h, show ¬ c ≤ 57 by omega]
              · simp [h, show c ≤ 57 by omega]
            · have h5 : ([c] : List Nat) < [48] := h5
              rw [lt1] at h5
              exact ⟨by simp [sgn, show ¬ 97 ≤ c by omega, show ¬ 48 ≤ c by omega], rfl⟩
        · array_get_dec
          rw [show strSigns x = x.cps.toList.map fun c => .str ⟨#[c]⟩ from rfl, List.map_map]
          refine ⟨_, blt_all sgn _, ?_⟩
          array_get_dec
          exact finb (by simp [plainD, plainB, show lo ≤ x.length by omega, show x.length ≤ hi by omega])
    · have h1 : ¬ (lo : Int) ≤ x.length := h1
      exact finb (by simp only [plainD, plainB, decide_eq_false (show ¬ lo ≤ x.length by omega), Bool.false_and])
  all_goals rfl
theorem r21 (n : Nat) (v : PyData) : run TT (n + 2) 21 [v] = some ((.bool (nameD v), false), []) := by
  refine (w21 ?_).eq
  array_get_dec
  refine ok_of (r20 _ v 1 8 (by decide)) ?_
  array_get_dec
  array_mem_dec <;> intro h1 <;> array_get_dec
  · cases v with
    | str x =>
      have h1 : plainB 1 8 x = true := h1
      obtain ⟨⟨l⟩⟩ := x
      cases l with
      | nil => exact absurd h1 (by decide)
      | cons c l =>
        array_get_dec
        refine ⟨.str ⟨#[c]⟩, by simp [idxD, atI, ixN], ?_⟩
        array_get_dec
        refine fin ?_
        show PyData.bool (!decide (([c] : List Nat) < [97])) = .bool (plainB 1 8 _ && let_ c)
        rw [h1, Bool.true_and]
        simp only [plainB, Bool.and_eq_true] at h1
        have h2 : sgn c = true := List.all_eq_true.mp h1.2 c List.mem_cons_self
        simp [sgn] at h2
        simp only [lt1, let_]
        by_cases h : c < 97
        · simp [h, show ¬ 97 ≤ c by omega]
        · simp [h, show 97 ≤ c by omega, show c ≤ 122 by omega]
    | _ => cases h1
  · refine finb ?_
    cases v with
    | str x =>
      have h1 : plainB 1 8 x = false := h1
      simp [nameD, nameB, h1]
    | _ => rfl
theorem r22 (n : Nat) (v : PyData) : run TT (n + 2) 22 [v] = some ((.bool (wordsD v), false), []) := by
  refine (w22 ?_).eq
  cases v <;> array_get_dec
  case str x =>
    array_mem_dec <;> intro h1 <;> array_get_dec
    · have h1 : (120 : Int) < x.length := h1
      exact finb (by simp [wordsD, wordsB, show ¬x.length ≤ 120 by omega])
    · have h1 : x.length ≤ 120 := by
        have h1 : ¬ (120 : Int) < x.length := h1
        omega
      array_mem_dec <;> intro h2 <;> array_get_dec
      · subst h2; rfl
      · refine ⟨.list ((Txt.split x " ").map .str), by
          simp only [metD]
          rw [if_pos ⟨by decide, by show x.length + 2 ≤ 16777216; omega⟩], ?_⟩
        array_get_dec
        refine ok_of (w_map (fun d => .bool (plainD 1 120 d)) rfl ?_ fun y hy => ?_) ?_
        · have h3 := PyProof.Rows.split_weight x " " (by decide)
          rw [List.length_map]
          show _ ≤ 16777216
          omega
        · obtain ⟨p, hp, rfl⟩ := List.mem_map.mp hy
          array_get_dec
          refine ok_of (r20 _ _ 1 120 (by decide)) ?_
          array_get_dec
          exact rfl
        · array_get_dec
          rw [List.map_map]
          refine ⟨_, blt_all (plainB 1 120) _, ?_⟩
          array_get_dec
          refine finb ?_
          have hx : ¬ x.length = 0 := fun h => h2 (len0.mp h)
          simp only [wordsD, wordsB, h1, hx, decide_true, decide_false, Bool.true_and, Bool.false_or]
          rw [Bool.eq_iff_iff]
          simp only [List.all_eq_true]
          refine forall_congr' fun p => forall_congr' fun hp => ?_
          have hl := part_le hp
          simp only [plainB, show p.length ≤ 120 by omega, decide_true, Bool.and_true]
  all_goals rfl
theorem r23 (n : Nat) (v : PyData) : run TT (n + 3) 23 [v] = some ((.bool (rowD v), false), []) := by
  refine (w23 ?_).eq
  cases v <;> array_get_dec
  case tuple ds =>
    array_mem_dec <;> intro h1 <;> array_get_dec
    · refine finb ?_
      have h1 : ¬ ds.length = 4 := fun h => h1 (by rw [h]; rfl)
      match ds, h1 with
      | [], _ => rfl
      | [_], _ => rfl
      | [_, _], _ => rfl
      | [_, _, _], _ => rfl
      | [_, _, _, _], h => exact absurd rfl h
      | _ :: _ :: _ :: _ :: _ :: _, _ => rfl
    · obtain ⟨a, b, c, d, rfl⟩ : ∃ a b c d, ds = [a, b, c, d] := by
        have h1 : (ds.length : Int) = 4 := h1
        have h1 : ds.length = 4 := by omega
        match ds, h1 with
        | [a, b, c, d], _ => exact ⟨a, b, c, d, rfl⟩
      array_get_dec
      refine ok_of (r21 _ a) ?_
      array_get_dec
      array_mem_dec <;> intro h2 <;> array_get_dec
      · exact finb (by simp at h2; simp [rowD, h2])
      · have e1 : ∀ K : Prop, (depthD b = true → K) → (depthD b = false → rowD (.tuple [a, b, c, d]) = false) := fun K _ h => by simp [rowD, h]
        cases b with
        | int i =>
          array_get_dec
          array_mem_dec <;> intro h3 <;> array_get_dec
          · array_mem_dec <;> intro h4 <;> array_get_dec
            · refine finb ?_
              simp [rowD, depthD]
              omega
            · refine ok_of (r20 _ c 1 4 (by decide)) ?_
              array_get_dec
              array_mem_dec <;> intro h5 <;> array_get_dec
              · refine ok_of (r22 _ d) ?_
                array_get_dec
                refine finb ?_
                have h5 : labelD c = true := by cases c <;> first | exact h5 | cases h5
                have h2 : nameD a = true := by simpa using h2
                simp [rowD, depthD, h2, h5, h3, show i ≤ 6 by omega]
              · refine finb ?_
                have h5 : labelD c = false := by cases c <;> first | exact h5 | rfl
                simp [rowD, h5]
          · refine finb ?_
            simp [rowD, depthD, h3]
        | _ =>
          array_get_dec
          refine finb ?_
          simp [rowD, depthD]
  all_goals exact finb rfl
end K10

set_option maxHeartbeats 4000000
/-! k10: rows as records; parents; the first that comes twice. -/
namespace Mi
open PySem L2
structure Rw where
  n : Str
  d : Nat
  l : Str
  w : Str
def Rw.enc (r : Rw) : PyData := .tuple [.str r.n, .int r.d, .str r.l, .str r.w]
def Rw.Ok (r : Rw) : Prop := nameB r.n = true ∧ r.d ≤ 6 ∧ plainB 1 4 r.l = true ∧ wordsB r.w = true
theorem rowD_enc {v : PyData} (h : rowD v = true) : ∃ r : Rw, v = r.enc ∧ r.Ok := by
  unfold rowD at h
  split at h
  · rename_i a b c d
    simp only [Bool.and_eq_true] at h
    obtain ⟨⟨⟨h1, h2⟩, h3⟩, h4⟩ := h
    cases a with
    | str a =>
      cases b with
      | int b =>
        cases c with
        | str c =>
          cases d with
          | str d =>
            simp only [depthD, Bool.and_eq_true, decide_eq_true_eq] at h2
            refine ⟨⟨a, b.toNat, c, d⟩, ?_, h1, by show b.toNat ≤ 6; omega, h3, h4⟩
            simp only [Rw.enc, Int.toNat_of_nonneg h2.1]
          | _ => cases h4
        | _ => cases h3
      | _ => cases h2
    | _ => cases h1
  · cases h
theorem rowD_of {r : Rw} (h : r.Ok) : rowD r.enc = true := by
  obtain ⟨h1, h2, h3, h4⟩ := h
  simp only [rowD, Rw.enc, nameD, labelD, wordsD, h1, h3, h4, depthD, Bool.and_true, Bool.true_and, Bool.and_eq_true, decide_eq_true_eq]
  omega
theorem rowsD_enc : ∀ {ds : List PyData}, ds.all rowD = true → ∃ rs : List Rw, ds = rs.map Rw.enc ∧ ∀ r ∈ rs, r.Ok
  | [], _ => ⟨[], rfl, fun r hr => absurd hr (by simp)⟩
  | d :: ds, h => by
    rw [List.all_cons, Bool.and_eq_true] at h
    obtain ⟨r, h1, h2⟩ := rowD_enc h.1
    obtain ⟨rs, h3, h4⟩ := rowsD_enc h.2
    exact ⟨r :: rs, by rw [h1, h3]; rfl, fun q hq => by
      rcases List.mem_cons.mp hq with e | hq
      · subst e; exact h2
      · exact h4 q hq⟩
theorem sgn_lt {c : Nat} (h : sgn c = true) : c < 1114112 := by
  simp [sgn] at h; omega
theorem strOk_of {x : Str} (h : x.cps.toList.all sgn = true) : PyData.strOk x = true := by
  unfold PyData.strOk
  rw [← Array.all_toList]
  exact List.all_eq_true.mpr fun c hc => decide_eq_true (sgn_lt (List.all_eq_true.mp h c hc))
theorem nameB_sgn {x : Str} (h : nameB x = true) : x.cps.toList.all sgn = true := by
  simp only [nameB, plainB, Bool.and_eq_true] at h
  exact h.1.2
theorem plainB_sgn {lo hi : Nat} {x : Str} (h : plainB lo hi x = true) : x.cps.toList.all sgn = true := by
  simp only [plainB, Bool.and_eq_true] at h
  exact h.2
theorem canLay_strs : ∀ {xs : List Str}, (∀ x ∈ xs, PyData.strOk x = true) → PyData.canLayAll0 (xs.map .str) = true
  | [], _ => rfl
  | x :: xs, h => by
    simp only [List.map_cons, PyData.canLayAll0, PyData.canLay0, h x List.mem_cons_self, canLay_strs fun y hy => h y (List.mem_cons_of_mem _ hy), Bool.and_self]
theorem depth_strs : ∀ {xs : List Str}, PyData.depthAll (xs.map .str) = 0
  | [] => rfl
  | x :: xs => by simp only [List.map_cons, PyData.depthAll, PyData.depth, depth_strs, Nat.max_self]
theorem shp_strs {xs : List Str} (h : ∀ x ∈ xs, PyData.strOk x = true) : shp (.list (xs.map .str)) = true := by
  unfold shp SeqAt.shaped
  simp only [PyData.canLay0, canLay_strs h, PyData.depth, depth_strs, Bool.true_and]
  rfl
theorem shp_str {x : Str} (h : PyData.strOk x = true) : shp (.str x) = true := by
  unfold shp SeqAt.shaped
  simp only [PyData.canLay0, h, PyData.depth, Bool.true_and]
  rfl
theorem ne_nil {xs : List Str} (h : ∀ x ∈ xs, PyData.strOk x = true) : cmpD .NotEq (.list (xs.map .str)) (.list []) = some (!xs.isEmpty) := by
  simp only [cmpD]
  rw [if_pos ⟨shp_strs h, by decide⟩]
  cases xs <;> rfl
/-! ### parents -/
def step (line : List Str) (r : Rw) : List Str := line.take r.d ++ [r.n]
def pars : List Str → List Rw → List (Option Str)
  | _, [] => []
  | line, r :: rs => (line.take r.d).getLast? :: pars (step line r) rs
theorem pars_snoc : ∀ (line : List Str) (pre : List Rw) (x : Rw), pars line (pre ++ [x]) = pars line pre ++ [((pre.foldl step line).take x.d).getLast?]
  | line, [], x => rfl
  | line, r :: pre, x => by rw [List.cons_append, pars, pars_snoc, pars]; rfl
theorem pars_len : ∀ (line : List Str) (rs : List Rw), (pars line rs).length = rs.length
  | _, [] => rfl
  | line, r :: rs => by rw [pars, List.length_cons, pars_len, List.length_cons]
theorem line_len : ∀ (line : List Str) (pre : List Rw), (pre.foldl step line).length ≤ line.length + pre.length
  | line, [] => by simp
  | line, r :: pre => by
    have := line_len (step line r) pre
    rw [List.foldl_cons]
    simp [step] at this ⊢
    omega
theorem line_mem : ∀ {line : List Str} {pre : List Rw} {P : Str → Prop}, (∀ x ∈ line, P x) → (∀ r ∈ pre, P r.n) → ∀ x ∈ pre.foldl step line, P x
  | line, [], _, h, _ => h
  | line, r :: pre, P, h, g => line_mem (line := step line r) (fun x hx => by
      rcases List.mem_append.mp hx with hx | hx
      · exact h x (List.mem_of_mem_take hx)
      · rw [List.mem_singleton.mp hx]; exact g r List.mem_cons_self) fun q hq => g q (List.mem_cons_of_mem _ hq)
def encO : Option Str → PyData
  | none => .none
  | some s => .str s
/-! ### the first that comes twice -/
def ftwFrom {α : Type} [DecidableEq α] : List α → List α → Nat → Option Nat
  | _, [], _ => none
  | seen, x :: xs, k => if x ∈ seen then some k else ftwFrom (seen ++ [x]) xs (k + 1)
def ftw {α : Type} [DecidableEq α] (l : List α) : Option Nat := ftwFrom [] l 0
def encN : Option Nat → PyData
  | none => .none
  | some k => .int k
theorem any_strs (l : List Str) (x : Str) : ((l.map fun s => (PyData.str s, PyData.bool true)).any fun p => PyData.eqv p.1 (.str x)) = decide (x ∈ l) := by
  rw [Bool.eq_iff_iff]
  simp only [List.any_map, List.any_eq_true, decide_eq_true_eq, Function.comp, PyData.eqv]
  constructor
  · rintro ⟨y, h1, h2⟩; rw [← eq_of_beq h2]; exact h1
  · intro h; exact ⟨x, h, by simp⟩
def encP (p : Option Str × Str) : PyData := .tuple [encO p.1, .str p.2]
theorem eqv_encP (p q : Option Str × Str) : PyData.eqv (encP p) (encP q) = decide (p = q) := by
  rw [Bool.eq_iff_iff]
  rcases p with ⟨_ | a, b⟩ <;> rcases q with ⟨_ | c, d⟩ <;> simp [encP, encO, PyData.eqv, PyData.eqvAll]
theorem any_encP (l : List (Option Str × Str)) (x : Option Str × Str) : ((l.map fun s => (encP s, PyData.bool true)).any fun p => PyData.eqv p.1 (encP x)) = decide (x ∈ l) := by
  rw [Bool.eq_iff_iff]
  simp only [List.any_map, List.any_eq_true, decide_eq_true_eq, Function.comp, eqv_encP]
  constructor
  · rintro ⟨y, h1, h2⟩; rw [← h2]; exact h1
  · intro h; exact ⟨x, h, rfl⟩
theorem nkT_encP (p : Option Str × Str) : ∃ k, nkT (encP p) = some k := by
  rcases p with ⟨_ | a, b⟩ <;> exact ⟨_, rfl⟩
theorem drop_of {α : Type} {l : List α} {k : Nat} {x : α} (h : l[k]? = some x) : l.drop k = x :: l.drop (k + 1) := by
  obtain ⟨hk, e⟩ := List.getElem?_eq_some_iff.mp h
  rw [← e, List.getElem_cons_drop]
theorem take_of {α : Type} {l : List α} {k : Nat} {x : α} (h : l[k]? = some x) : l.take (k + 1) = l.take k ++ [x] := by
  rw [List.take_add_one, h]; rfl
end Mi
namespace K10
open PySem Mi L2
local macro_rules | `(tactic| array_get_dec) => `(tactic| (conv => whnf); repeat (first | refine ⟨_, rfl, ?_⟩ | refine ⟨rfl, ?_⟩ | refine ⟨Nat.le_of_ble_eq_true rfl, ?_⟩); (conv => whnf))
local macro_rules | `(tactic| array_mem_dec) => `(tactic| (first | refine wd ?_ ?_ | refine wdn ?_ ?_ | refine wb ?_ ?_))

theorem r9 (n : Nat) (rs : List Rw) (hl : rs.length ≤ 1000) (hr : ∀ r ∈ rs, PyData.strOk r.n = true) : run TT (n + 1) 9 [.tuple (rs.map Rw.enc)] = some ((.list ((pars [] rs).map encO), true), []) := by
  refine (w9 ?_).eq
  array_get_dec
  refine w_forL (fun pre env => ∃ ps s3 s4 s5 s6, pre = ps.map Rw.enc ∧ ps.length ≤ 1000 ∧ (∀ r ∈ ps, r ∈ rs) ∧ env = [.val (.tuple (rs.map Rw.enc)), .own ((ps.foldl step []).map .str), .own ((pars [] ps).map encO), s3, s4, s5, s6]) ⟨[], _, _, _, _, rfl, by simp, by simp, rfl⟩ (fun pre x post env hx hI => ?_) fun env hI => ?_
  · obtain ⟨ps, s3, s4, s5, s6, rfl, hpl, hps, rfl⟩ := hI
    have hx' := hx
    rw [List.map_eq_append_iff] at hx
    obtain ⟨l1, l2, e1, e2, e3⟩ := hx
    rw [List.map_eq_cons_iff] at e3
    obtain ⟨r, l3, rfl, rfl, rfl⟩ := e3
    have hlen : ps.length < 1000 := by
      have := congrArg List.length hx'
      simp at this
      omega
    have hrr : r ∈ rs := by rw [e1]; simp
    have hok : ∀ x ∈ (ps.foldl step []).take r.d, PyData.strOk x = true := fun x hx => line_mem (line := []) (P := fun x => PyData.strOk x = true) (by simp) (fun q hq => hr q (hps q hq)) x (List.mem_of_mem_take hx)
    have hll : (ps.foldl step []).length ≤ ps.length := by simpa using line_len [] ps
    array_get_dec
    rw [cut_to, ← List.map_take]
    refine ⟨_, ne_nil hok, ?_⟩
    rcases List.eq_nil_or_concat ((ps.foldl step []).take r.d) with e | ⟨ys, y, e⟩
    · rw [e]
      array_get_dec
      refine ⟨by rw [List.length_map, pars_len]; show _ < 16777216; omega, ?_⟩
      array_get_dec
      refine ⟨ps ++ [r], .val (.str r.n), .val (.int r.d), .val (.str r.l), .val (.str r.w), by simp, by simp; omega, fun q hq => ?_, ?_⟩
      · rcases List.mem_append.mp hq with hq | hq
        · exact hps q hq
        · rw [List.mem_singleton.mp hq]; exact hrr
      · rw [List.foldl_append, pars_snoc, e, List.map_append]
        show _ = [_, Sl.own ((((ps.foldl step []).take r.d ++ [r.n])).map .str), _, _, _, _, _]
        rw [e]; rfl
    · rw [e, List.concat_eq_append, List.map_append]
      array_mem_dec <;> intro h1 <;> array_get_dec
      · refine ⟨.str y, by simp only [idxD]; exact atI_last, ?_⟩
        array_get_dec
        refine ⟨by rw [List.length_map, pars_len]; show _ < 16777216; omega, ?_⟩
        array_get_dec
        refine ⟨by
          have := congrArg List.length e
          simp at this
          simp only [List.length_append, List.length_map, List.length_cons, List.length_nil]
          show _ < 16777216
          omega, ?_⟩
        array_get_dec
        refine ⟨ps ++ [r], .val (.str r.n), .val (.int r.d), .val (.str r.l), .val (.str r.w), by simp, by simp; omega, fun q hq => ?_, ?_⟩
        · rcases List.mem_append.mp hq with hq | hq
          · exact hps q hq
          · rw [List.mem_singleton.mp hq]; exact hrr
        · rw [List.foldl_append, pars_snoc, e, List.map_append]
          show _ = [_, Sl.own ((((ps.foldl step []).take r.d ++ [r.n])).map .str), _, _, _, _, _]
          rw [e]; simp [encO]
      · simp at h1
  · obtain ⟨ps, s3, s4, s5, s6, h1, hpl, hps, rfl⟩ := hI
    array_get_dec
    have : ps = rs := by
      have hinj : ∀ a b : Rw, a.enc = b.enc → a = b := fun a b h => by
        rcases a with ⟨a1, a2, a3, a4⟩; rcases b with ⟨b1, b2, b3, b4⟩
        simp [Rw.enc] at h
        obtain ⟨rfl, h2, rfl, rfl⟩ := h
        have : a2 = b2 := by omega
        subst this; rfl
      exact (List.map_inj_right hinj).mp h1.symm
    subst this
    rfl
theorem r11s (n : Nat) (ss : List Str) (hl : ss.length ≤ 1000) : run TT (n + 1) 11 [.list (ss.map .str)] = some ((encN (ftw ss), false), []) := by
  refine (w11 ?_).eq
  array_get_dec
  refine w_for (fun k env => (∃ s2 s3, env = [.val (.list (ss.map .str)), .owd ((ss.take k).map fun s => (PyData.str s, PyData.bool true)), s2, s3]) ∧ ftw ss = ftwFrom (ss.take k) (ss.drop k) k) ⟨⟨_, _, rfl⟩, rfl⟩ (fun k x env hx hI => ?_) fun env hI => ?_
  · obtain ⟨⟨s2, s3, rfl⟩, hf⟩ := hI
    rw [enumL_get, List.getElem?_map] at hx
    obtain ⟨d, hd, rfl⟩ := Option.map_eq_some_iff.mp hx
    obtain ⟨s, hs, rfl⟩ := Option.map_eq_some_iff.mp hd
    rw [drop_of hs] at hf
    array_get_dec
    rw [any_strs]
    array_mem_dec <;> intro h <;> array_get_dec
    · rw [ftwFrom, if_pos h] at hf
      rw [hf]
      show _ = ((PyData.int (k : Int), false), _)
      rw [Nat.zero_add]
    · have hk : k < ss.length := (List.getElem?_eq_some_iff.mp hs).1
      refine ⟨.owd (((ss.take k).map fun s => (PyData.str s, PyData.bool true)) ++ [(.str s, .bool true)]), by
        simp only [putS, Mi.keyOf]
        rw [if_pos (by rw [List.length_map, List.length_take]; show _ < 16777216; omega), putD, any_strs, decide_eq_false h]
        rfl, ?_⟩
      array_get_dec
      refine ⟨⟨.val (.int ((0 + k : Nat) : Int)), .val (.str s), ?_⟩, ?_⟩
      · rw [take_of hs, List.map_append]; rfl
      · rw [ftwFrom, if_neg h] at hf
        rw [hf, take_of hs]
  · obtain ⟨⟨s2, s3, rfl⟩, hf⟩ := hI
    array_get_dec
    rw [hf, enumL_len, List.length_map, List.drop_length]
    rfl
theorem r11t (n : Nat) (ss : List (Option Str × Str)) (hl : ss.length ≤ 1000) : run TT (n + 1) 11 [.list (ss.map encP)] = some ((encN (ftw ss), false), []) := by
  refine (w11 ?_).eq
  array_get_dec
  refine w_for (fun k env => (∃ s1 s2 s3, env = [.val (.list (ss.map encP)), s1, s2, s3] ∧ ((k = 0 ∧ s1 = .owd []) ∨ (0 < k ∧ s1 = .owt ((ss.take k).map fun s => (encP s, PyData.bool true))))) ∧ ftw ss = ftwFrom (ss.take k) (ss.drop k) k) ⟨⟨_, _, _, rfl, .inl ⟨rfl, rfl⟩⟩, rfl⟩ (fun k x env hx hI => ?_) fun env hI => ?_
  · obtain ⟨⟨s1, s2, s3, rfl, h1⟩, hf⟩ := hI
    rw [enumL_get, List.getElem?_map] at hx
    obtain ⟨d, hd, rfl⟩ := Option.map_eq_some_iff.mp hx
    obtain ⟨s, hs, rfl⟩ := Option.map_eq_some_iff.mp hd
    rw [drop_of hs] at hf
    obtain ⟨nk, hnk⟩ := nkT_encP s
    have hk : k < ss.length := (List.getElem?_eq_some_iff.mp hs).1
    rcases h1 with ⟨rfl, rfl⟩ | ⟨hk0, rfl⟩
    · array_get_dec
      refine ⟨false, by
        simp only [cmpE, tOf, List.getElem?_cons_zero, List.getElem?_cons_succ, rdO, slD, Option.bind_some, cmpD, inD]
        have : Mi.keyOf (encP s) = none := rfl
        rw [this, hnk], ?_⟩
      array_get_dec
      refine ⟨.owt [(encP s, .bool true)], by
        have : Mi.keyOf (encP s) = none := rfl
        simp only [putS, this, hnk], ?_⟩
      array_get_dec
      refine ⟨⟨_, _, _, rfl, .inr ⟨by omega, ?_⟩⟩, ?_⟩
      · rw [take_of hs]; rfl
      · rw [ftwFrom, if_neg (by simp)] at hf
        rw [hf, take_of hs]
    · array_get_dec
      refine ⟨decide (s ∈ ss.take k), by
        simp only [cmpE, tOf, List.getElem?_cons_zero, List.getElem?_cons_succ, rdO, isIn, Option.bind_some]
        rw [hnk, any_encP]
        simp, ?_⟩
      array_get_dec
      array_mem_dec <;> intro h <;> array_get_dec
      · rw [ftwFrom, if_pos h] at hf
        rw [hf]
        show _ = ((PyData.int (k : Int), false), _)
        rw [Nat.zero_add]
      · refine ⟨.owt (((ss.take k).map fun s => (encP s, PyData.bool true)) ++ [(encP s, .bool true)]), by
          simp only [putS]
          rw [hnk, Option.bind_some, if_pos (by rw [List.length_map, List.length_take]; show _ < 16777216; omega), putD, any_encP, decide_eq_false h]
          rfl, ?_⟩
        array_get_dec
        refine ⟨⟨_, _, _, rfl, .inr ⟨by omega, ?_⟩⟩, ?_⟩
        · rw [take_of hs, List.map_append]; rfl
        · rw [ftwFrom, if_neg h] at hf
          rw [hf, take_of hs]
  · obtain ⟨⟨s1, s2, s3, rfl, h1⟩, hf⟩ := hI
    rw [hf, enumL_len, List.length_map, List.drop_length]
    array_get_dec
    rfl
end K10

set_option maxHeartbeats 4000000
/-! k10: depths; the flaw of a tree, whether a value is one. -/
namespace Mi
open PySem L2
section
variable {Φ : Fns} {io : Nat → List Pk} {ro : List Nat} {g : MG}
theorem w_forN {b : MSs} {env : En} {Q : Fl × En → Prop} (h : Q (.nx, env)) : Ok (forS Φ io ro g b [] env) Q := by
  unfold forS; exact ok_some.mpr h
theorem w_forC {b : MSs} {x : PyData} {xs : List PyData} {env : En} {Q : Fl × En → Prop} (h : wbd g x env fun e1 => wss Φ io ro b e1 (wturn (fun e => Ok (forS Φ io ro g b xs e) Q) Q)) : Ok (forS Φ io ro g b (x :: xs) env) Q := by
  unfold forS
  show Ok ((bindT g x env).bind fun env1 => (exs Φ io ro b env1).bind fun p => match p.1 with
      | .nx => forL g _ xs p.2
      | .ct => forL g _ xs p.2
      | .bk => some (.nx, p.2)
      | .rt d fr => some (.rt d fr, p.2)) Q
  refine ok_b (wbd_ok h) fun e1 h1 => ok_b (wss_ok _ _ _ h1) fun p hp => ?_
  rcases p with ⟨f, e⟩
  cases f with
  | nx => have hp : Ok (forS Φ io ro g b xs e) Q := hp; unfold forS at hp; exact hp
  | ct => have hp : Ok (forS Φ io ro g b xs e) Q := hp; unfold forS at hp; exact hp
  | bk => exact ok_some.mpr hp
  | rt d fr => exact ok_some.mpr hp
end
def badD (prev : Option Nat) (d : Nat) : Bool := match prev with
  | none => !decide (d = 0)
  | some p => !(decide (1 ≤ d) && decide (d ≤ p + 1))
def depFrom : Option Nat → List Rw → Nat → Option Nat
  | _, [], _ => none
  | prev, r :: rs, k => if badD prev r.d = true then some k else depFrom (some r.d) rs (k + 1)
def depFlaw (rs : List Rw) : Option Nat := depFrom none rs 0
def adj : List Rw → Bool
  | a :: b :: r => (decide (1 ≤ b.d) && decide (b.d ≤ a.d + 1)) && adj (b :: r)
  | _ => true
theorem adj_dep : ∀ (a : Rw) (r : List Rw) (k : Nat), (depFrom (some a.d) r k).isNone = adj (a :: r)
  | a, [], k => rfl
  | a, b :: r, k => by
    rw [depFrom, adj]
    cases h : badD (some a.d) b.d with
    | true =>
      have : (decide (1 ≤ b.d) && decide (b.d ≤ a.d + 1)) = false := by
        rw [Bool.eq_false_iff]; simp [badD] at h ⊢; omega
      rw [this]; rfl
    | false =>
      have : (decide (1 ≤ b.d) && decide (b.d ≤ a.d + 1)) = true := by simpa [badD] using h
      rw [this, Bool.true_and, ← adj_dep b r (k + 1)]; rfl
theorem adj_zip : ∀ (rs : List Rw), (rs.zip (rs.drop 1)).all (fun p => decide (1 ≤ p.2.d) && decide (p.2.d ≤ p.1.d + 1)) = adj rs
  | [] => rfl
  | [a] => rfl
  | a :: b :: r => by
    have ih := adj_zip (b :: r)
    simp only [List.drop_succ_cons, List.drop_zero, List.zip_cons_cons, List.all_cons, adj] at ih ⊢
    rw [ih]
theorem zipL_map {α β : Type} (f : α → PyData) (g : β → PyData) : ∀ (xs : List α) (ys : List β), zipL (xs.map f) (ys.map g) = (xs.zip ys).map fun p => .tuple [f p.1, g p.2]
  | [], _ => by simp [zipL]
  | _ :: _, [] => by simp [zipL]
  | x :: xs, y :: ys => by
    simp only [List.map_cons, zipL, List.zip_cons_cons]
    rw [zipL_map f g xs ys]
theorem ded_ftw : ∀ (xs σ : List Str) (k : Nat), ((xs.foldl dedS σ).length ≤ σ.length + xs.length) ∧ ((xs.foldl dedS σ).length = σ.length + xs.length ↔ ftwFrom σ xs k = none)
  | [], σ, k => by simp [ftwFrom]
  | x :: xs, σ, k => by
    have ha : (σ.any fun y => y == x) = decide (x ∈ σ) := by
      rw [Bool.eq_iff_iff]; simp
    rw [List.foldl_cons, ftwFrom]
    by_cases h : x ∈ σ
    · have : dedS σ x = σ := by unfold dedS; rw [ha, decide_eq_true h]; rfl
      rw [this, if_pos h]
      have := (ded_ftw xs σ k).1
      refine ⟨by simp; omega, ?_⟩
      simp only [List.length_cons, reduceCtorEq, iff_false]
      omega
    · have : dedS σ x = σ ++ [x] := by unfold dedS; rw [ha, decide_eq_false h]; rfl
      rw [this, if_neg h]
      have := ded_ftw xs (σ ++ [x]) (k + 1)
      simp only [List.length_append, List.length_cons, List.length_nil] at this ⊢
      refine ⟨by omega, ?_⟩
      rw [← this.2]
      constructor <;> intro <;> omega
def rowFrom : List PyData → Nat → Option Nat
  | [], _ => none
  | d :: ds, k => if rowD d = true then rowFrom ds (k + 1) else some k
theorem rowFrom_all : ∀ (ds : List PyData) (k : Nat), (rowFrom ds k).isNone = ds.all rowD
  | [], _ => rfl
  | d :: ds, k => by
    rw [rowFrom, List.all_cons]
    by_cases h : rowD d = true
    · rw [if_pos h, h, Bool.true_and, rowFrom_all]
    · rw [if_neg h]; simp [h]
def dec : PyData → Rw
  | .tuple [.str a, .int b, .str c, .str d] => ⟨a, b.toNat, c, d⟩
  | _ => ⟨"", 0, "", ""⟩
theorem dec_enc (r : Rw) : dec r.enc = r := by
  rcases r with ⟨a, b, c, d⟩
  simp [dec, Rw.enc]
theorem dec_encs (rs : List Rw) : (rs.map Rw.enc).map dec = rs := by
  rw [List.map_map]
  conv => rhs; rw [← List.map_id rs]
  exact List.map_congr_left fun r _ => dec_enc r
def word (w : Str) (k : Nat) : PyData := .tuple [.str w, .int k]
def labPairs (rs : List Rw) : List (Option Str × Str) := (pars [] rs).zip (rs.map (·.l))
def flawR (rs : List Rw) : PyData := match ftw (rs.map (·.n)) with
  | some k => word "name" k
  | none => match depFlaw rs with
    | some k => word "depth" k
    | none => match ftw (labPairs rs) with
      | some k => word "label" k
      | none => .none
def flawV : PyData → PyData
  | .tuple ds => if 1 ≤ ds.length ∧ ds.length ≤ 200 then match rowFrom ds 0 with
      | some k => word "row" k
      | none => flawR (ds.map dec)
    else .tuple [.str "form"]
  | _ => .tuple [.str "form"]
end Mi
namespace K10
open PySem Mi L2
local macro_rules | `(tactic| array_get_dec) => `(tactic| (conv => whnf); repeat (first | refine ⟨_, rfl, ?_⟩ | refine ⟨rfl, ?_⟩ | refine ⟨Nat.le_of_ble_eq_true rfl, ?_⟩); (conv => whnf))
local macro_rules | `(tactic| array_mem_dec) => `(tactic| (first | refine wd ?_ ?_ | refine wdn ?_ ?_ | refine wb ?_ ?_))

theorem r12 (n : Nat) (rs : List Rw) (hl : rs.length ≤ 1000) : run TT (n + 1) 12 [.tuple (rs.map Rw.enc)] = some ((encN (depFlaw rs), false), []) := by
  refine (w12 ?_).eq
  array_get_dec
  refine w_for (fun k env => (∃ s1 s2, env = [.val (.tuple (rs.map Rw.enc)), s1, s2]) ∧ depFlaw rs = depFrom (if k = 0 then none else (rs[k - 1]?).map (·.d)) (rs.drop k) k) ⟨⟨_, _, rfl⟩, rfl⟩ (fun k x env hx hI => ?_) fun env hI => ?_
  · obtain ⟨⟨s1, s2, rfl⟩, hf⟩ := hI
    rw [enumL_get, List.getElem?_map] at hx
    obtain ⟨d, hd, rfl⟩ := Option.map_eq_some_iff.mp hx
    obtain ⟨r, hr, rfl⟩ := Option.map_eq_some_iff.mp hd
    rw [drop_of hr] at hf
    have nextI : badD (if k = 0 then none else (rs[k - 1]?).map (·.d)) r.d = false → depFlaw rs = depFrom (if k + 1 = 0 then none else (rs[k + 1 - 1]?).map (·.d)) (rs.drop (k + 1)) (k + 1) := fun hb => by
      rw [hf, depFrom, if_neg (by rw [hb]; decide), if_neg (by omega), Nat.add_sub_cancel, hr]; rfl
    have endI : badD (if k = 0 then none else (rs[k - 1]?).map (·.d)) r.d = true → encN (depFlaw rs) = .int ((0 + k : Nat) : Int) := fun hb => by
      rw [hf, depFrom, if_pos hb, Nat.zero_add]; rfl
    array_get_dec
    array_mem_dec <;> intro h <;> array_get_dec
    · have hk : k = 0 := by
        have h : ((0 + k : Nat) : Int) = 0 := h
        omega
      subst hk
      array_mem_dec <;> intro h2 <;> array_get_dec
      · have h2 : ¬ (r.d : Int) = 0 := h2
        have hb : badD (if 0 = 0 then none else (rs[0 - 1]?).map (·.d)) r.d = true := by
          simp [badD]; omega
        exact fin (endI hb).symm
      · have h2 : (r.d : Int) = 0 := h2
        exact ⟨⟨_, _, rfl⟩, nextI (by simp [badD]; omega)⟩
    · have hk : ¬ k = 0 := by
        have h : ¬ ((0 + k : Nat) : Int) = 0 := h
        omega
      have hk1 : k - 1 < rs.length := by
        have := (List.getElem?_eq_some_iff.mp hr).1
        omega
      have hp : rs[k - 1]? = some rs[k - 1] := List.getElem?_eq_getElem hk1
      generalize rs[k - 1] = p at hp
      have e0 : (if k = 0 then none else (rs[k - 1]?).map (·.d)) = some p.d := by rw [if_neg hk, hp]; rfl
      rw [e0] at nextI endI
      array_mem_dec <;> intro h2 <;> array_get_dec
      · have h2 : (1 : Int) ≤ r.d := h2
        refine ⟨p.enc, by
          simp only [idxD]
          rw [show ((0 + k : Nat) : Int) - 1 = ((k - 1 : Nat) : Int) by omega]
          exact Mi.atI_nat (by rw [List.getElem?_map, hp]; rfl), ?_⟩
        array_get_dec
        array_mem_dec <;> intro h3 <;> array_get_dec
        · have h3 : ¬ (r.d : Int) ≤ p.d + 1 := h3
          exact fin (endI (by simp [badD]; omega)).symm
        · have h3 : (r.d : Int) ≤ p.d + 1 := h3
          exact ⟨⟨_, _, rfl⟩, nextI (by simp [badD]; omega)⟩
      · have h2 : ¬ (1 : Int) ≤ r.d := h2
        exact fin (endI (by simp [badD]; omega)).symm
  · obtain ⟨⟨s1, s2, rfl⟩, hf⟩ := hI
    rw [hf, enumL_len, List.length_map, List.drop_length]
    array_get_dec
    rfl
theorem r7 (n : Nat) (rs : List Rw) (hl : rs.length ≤ 1000) (h0 : rs ≠ []) : run TT (n + 1) 7 [.tuple (rs.map Rw.enc)] = some ((.bool (depFlaw rs).isNone, false), []) := by
  refine (w7 ?_).eq
  cases rs with
  | nil => exact absurd rfl h0
  | cons r rs =>
    array_get_dec
    refine ⟨r.enc, Mi.atI_nat (k := 0) rfl, ?_⟩
    array_get_dec
    array_mem_dec <;> intro h <;> array_get_dec
    · have h : ¬ (r.d : Int) = 0 := h
      refine finb ?_
      have hb : badD none r.d = true := by simp [badD]; omega
      rw [depFlaw, depFrom, if_pos hb]; rfl
    · have h : (r.d : Int) = 0 := h
      have hb : badD none r.d = false := by simp [badD]; omega
      rw [show cutL (List.map Rw.enc (r :: rs)) (some 1) none = (rs.map Rw.enc) from cut_from _ 1]
      rw [zipL_map]
      refine ok_of (w_map (fun d => match d with | .tuple [.tuple [_, .int a, _, _], .tuple [_, .int b, _, _]] => .bool (decide (1 ≤ b) && decide (b ≤ a + 1)) | _ => .none) rfl ?_ fun y hy => ?_) ?_
      · rw [List.length_map, List.length_zip]
        simp at hl ⊢
        show _ ≤ 16777216
        omega
      · obtain ⟨⟨a, b⟩, _, rfl⟩ := List.mem_map.mp hy
        array_get_dec
        array_mem_dec <;> intro h1 <;> array_get_dec
        · refine ⟨?_, rfl⟩
          have h1 : (1 : Int) ≤ b.d := h1
          simp only [Rw.enc, h1, decide_true, Bool.true_and]
        · refine ⟨?_, rfl⟩
          have h1 : ¬ (1 : Int) ≤ b.d := h1
          simp only [Rw.enc, h1, decide_false, Bool.false_and]
      · array_get_dec
        rw [List.map_map]
        refine ⟨_, blt_all (fun p : Rw × Rw => (decide ((1 : Int) ≤ p.2.d) && decide ((p.2.d : Int) ≤ (p.1.d : Int) + 1))) _, ?_⟩
        array_get_dec
        refine finb ?_
        have e : (depFlaw (r :: rs)).isNone = adj (r :: rs) := by
          rw [depFlaw, depFrom, if_neg (by rw [hb]; decide), adj_dep]
        rw [e, ← adj_zip]
        show List.all _ _ = List.all _ _
        congr 1
        funext p
        rw [Bool.eq_iff_iff]
        simp
        omega
end K10

set_option maxHeartbeats 4000000
/-! k10: the program's flaw of a value; whether it is a tree. -/
namespace Mi
open PySem L2
theorem strOk_name {r : Rw} (h : r.Ok) : PyData.strOk r.n = true := strOk_of (nameB_sgn h.1)
theorem strOk_lab {r : Rw} (h : r.Ok) : PyData.strOk r.l = true := strOk_of (plainB_sgn h.2.2.1)
def nOwn : Sl → Bool
  | .own _ => false
  | .owd _ => false
  | .owt _ => false
  | _ => true
theorem notOwn_of {env : En} {i : Nat} {s : Sl} (h : env[i]? = some s) (hs : nOwn s = true) : notOwn env i = true := by
  unfold notOwn
  rw [h]
  cases s <;> first | rfl | cases hs
theorem notOwn1 {env : En} {i : Nat} {s : Sl} (h : env[i]? = some s) (hs : nOwn s = true) : [i].all (notOwn env) = true := by
  simp [notOwn_of h hs]
theorem flawV_none {ds : List PyData} (h : rowFrom ds 0 = none) (h1 : 1 ≤ ds.length) (h2 : ds.length ≤ 200) : ∃ rs : List Rw, ds = rs.map Rw.enc ∧ (∀ r ∈ rs, r.Ok) ∧ flawV (.tuple ds) = flawR rs := by
  have := rowFrom_all ds 0
  rw [h] at this
  obtain ⟨rs, e, hr⟩ := rowsD_enc this.symm
  refine ⟨rs, e, hr, ?_⟩
  show (if _ then _ else _) = _
  rw [if_pos ⟨h1, h2⟩, h, e, dec_encs]
theorem labPairs_zip (rs : List Rw) : zipL ((pars [] rs).map encO) (rs.map fun r => .str r.l) = (labPairs rs).map encP := by
  rw [zipL_map, labPairs, List.zip_map_right, List.map_map]; rfl
theorem labPairs_len (rs : List Rw) : (labPairs rs).length = rs.length := by
  rw [labPairs, List.length_zip, pars_len, List.length_map, Nat.min_self]
end Mi
namespace K10
open PySem Mi L2
local macro_rules | `(tactic| array_get_dec) => `(tactic| (conv => whnf); repeat (first | refine ⟨_, rfl, ?_⟩ | refine ⟨rfl, ?_⟩ | refine ⟨Nat.le_of_ble_eq_true rfl, ?_⟩); (conv => whnf))
local macro_rules | `(tactic| array_mem_dec) => `(tactic| (first | refine wd ?_ ?_ | refine wdn ?_ ?_ | refine wb ?_ ?_))

theorem comp_names {n : Nat} {env env' : En} (rs : List Rw) (hl : rs.length ≤ 1000) (hw : wipeE env [3] = env') (h : ∀ r : Rw, wbd (.nm 3) r.enc env' fun e1 => we (run TT n) (ioOf TT) (.idx (.var 3) (.cst (.int 0))) e1 fun d e3 => d = .str r.n ∧ wipeE e3 [3] = env') :
    compS (run TT n) (ioOf TT) [3] (.nm 3) .no (.idx (.var 3) (.cst (.int 0))) (rs.map Rw.enc) env = some (.list ((rs.map (·.n)).map .str), env) := by
  rw [w_map (fun d => match d with | .tuple (a :: _) => a | _ => .none) hw (by rw [List.length_map]; show _ ≤ 16777216; omega) fun y hy => ?_]
  · rw [List.map_map, List.map_map]; rfl
  · obtain ⟨r, _, rfl⟩ := List.mem_map.mp hy
    exact h r
theorem comp_labs {n : Nat} {env env' : En} (rs : List Rw) (hl : rs.length ≤ 1000) (hw : wipeE env [3] = env') (h : ∀ r : Rw, wbd (.nm 3) r.enc env' fun e1 => we (run TT n) (ioOf TT) (.idx (.var 3) (.cst (.int 2))) e1 fun d e3 => d = .str r.l ∧ wipeE e3 [3] = env') :
    compS (run TT n) (ioOf TT) [3] (.nm 3) .no (.idx (.var 3) (.cst (.int 2))) (rs.map Rw.enc) env = some (.list (rs.map fun r => .str r.l), env) := by
  rw [w_map (fun d => match d with | .tuple [_, _, a, _] => a | _ => .none) hw (by rw [List.length_map]; show _ ≤ 16777216; omega) fun y hy => ?_]
  · rw [List.map_map]; rfl
  · obtain ⟨r, _, rfl⟩ := List.mem_map.mp hy
    exact h r
theorem r13 (n : Nat) (v : PyData) : run TT (n + 4) 13 [v] = some ((flawV v, false), []) := by
  refine (w13 ?_).eq
  cases v <;> array_get_dec
  case tuple ds =>
    have form : ¬ (1 ≤ ds.length ∧ ds.length ≤ 200) → flawV (.tuple ds) = .tuple [.str "form"] := fun h => by
      show (if _ then _ else _) = _
      rw [if_neg h]
    array_mem_dec <;> intro h1 <;> array_get_dec
    · have h1 : (1 : Int) ≤ ds.length := h1
      array_mem_dec <;> intro h2 <;> array_get_dec
      · have h2 : ¬ (ds.length : Int) ≤ 200 := h2
        exact fin (form (by omega)).symm
      · have h2 : (ds.length : Int) ≤ 200 := h2
        refine w_for (fun k env => (∃ s2 s3, env = [.val (.tuple ds), .un, s2, s3, .un] ∧ nOwn s3 = true) ∧ rowFrom ds 0 = rowFrom (ds.drop k) k) ⟨⟨_, _, rfl, rfl⟩, rfl⟩ (fun k x env hx hI => ?_) fun env hI => ?_
        · obtain ⟨⟨s1, s2, rfl, hs⟩, hf⟩ := hI
          rw [enumL_get] at hx
          obtain ⟨d, hd, rfl⟩ := Option.map_eq_some_iff.mp hx
          rw [drop_of hd, rowFrom] at hf
          array_get_dec
          refine ok_of (r6 _ d) ?_
          array_get_dec
          array_mem_dec <;> intro h3 <;> array_get_dec
          · have h3 : rowD d = false := by simpa using h3
            rw [if_neg (by rw [h3]; decide)] at hf
            refine fin ?_
            show _ = if _ then _ else _
            rw [if_pos (by omega), hf]
            show _ = word "row" k
            rw [Nat.zero_add]; rfl
          · have h3 : rowD d = true := by simpa using h3
            rw [if_pos h3] at hf
            exact ⟨⟨_, _, rfl, rfl⟩, hf⟩
        · obtain ⟨⟨s1, s2, rfl, hs⟩, hf⟩ := hI
          rw [enumL_len, List.drop_length] at hf
          obtain ⟨rs, rfl, hr, ef⟩ := flawV_none hf (by omega) (by omega)
          rw [ef]
          have hl : rs.length ≤ 1000 := by rw [List.length_map] at h2; omega
          array_get_dec
          refine ⟨notOwn1 rfl hs, ?_⟩
          refine ok_of (comp_names rs hl rfl fun r => ?_) ?_
          · array_get_dec
            exact rfl
          · array_get_dec
            refine ok_of (r11s _ _ (by rw [List.length_map]; exact hl)) ?_
            array_get_dec
            refine ok_of (r12 _ rs hl) ?_
            array_get_dec
            unfold flawR
            cases e1 : ftw (rs.map (·.n)) with
            | some k =>
              refine w_forC ?_
              array_get_dec
              exact fin rfl
            | none =>
              refine w_forC ?_
              array_get_dec
              cases e2 : depFlaw rs with
              | some k =>
                refine w_forC ?_
                array_get_dec
                exact fin rfl
              | none =>
                refine w_forC ?_
                array_get_dec
                refine w_forN ?_
                array_get_dec
                refine ok_of (r9 _ rs hl fun r hq => strOk_name (hr r hq)) ?_
                array_get_dec
                refine ⟨notOwn1 rfl hs, ?_⟩
                refine ok_of (comp_labs rs hl rfl fun r => ?_) ?_
                · array_get_dec
                  exact rfl
                · array_get_dec
                  rw [labPairs_zip]
                  refine ok_of (r11t _ _ (by rw [labPairs_len]; exact hl)) ?_
                  cases e3 : ftw (labPairs rs) with
                  | some k =>
                    array_get_dec
                    exact fin rfl
                  | none =>
                    array_get_dec
                    exact fin rfl
    · have h1 : ¬ (1 : Int) ≤ ds.length := h1
      exact fin (form (by omega)).symm
  all_goals exact fin rfl
theorem r14 (n : Nat) (v : PyData) : run TT (n + 5) 14 [v] = some ((flawV v, false), []) := by
  refine (w14 ?_).eq
  array_get_dec
  refine ok_of (r13 _ v) ?_
  array_get_dec
theorem flawR_none {rs : List Rw} : isNone (flawR rs) = ((ftw (rs.map (·.n))).isNone && (depFlaw rs).isNone && (ftw (labPairs rs)).isNone) := by
  unfold flawR
  cases ftw (rs.map (·.n)) <;> cases depFlaw rs <;> cases ftw (labPairs rs) <;> rfl
theorem r8 (n : Nat) (v : PyData) : run TT (n + 4) 8 [v] = some ((.bool (isNone (flawV v)), false), []) := by
  refine (w8 ?_).eq
  cases v <;> array_get_dec
  case tuple ds =>
    have form : ¬ (1 ≤ ds.length ∧ ds.length ≤ 200) → flawV (.tuple ds) = .tuple [.str "form"] := fun h => by
      show (if _ then _ else _) = _
      rw [if_neg h]
    array_mem_dec <;> intro h1 <;> array_get_dec
    · have h1 : (1 : Int) ≤ ds.length := h1
      array_mem_dec <;> intro h2 <;> array_get_dec
      · have h2 : ¬ (ds.length : Int) ≤ 200 := h2
        exact finb (by rw [form (by omega)]; rfl)
      · have h2 : (ds.length : Int) ≤ 200 := h2
        refine ok_of (w_map (fun d => .bool (rowD d)) rfl (by show _ ≤ 16777216; omega) fun y hy => ?_) ?_
        · array_get_dec
          refine ok_of (r6 _ y) ?_
          array_get_dec
          exact rfl
        · array_get_dec
          refine ⟨_, blt_all rowD _, ?_⟩
          array_get_dec
          array_mem_dec <;> intro h3 <;> array_get_dec
          · refine finb ?_
            have h3 : ds.all rowD = false := by simpa using h3
            have := rowFrom_all ds 0
            rw [h3] at this
            show false = isNone (if _ then _ else _)
            rw [if_pos (by omega)]
            cases e : rowFrom ds 0 with
            | none => rw [e] at this; cases this
            | some k => rfl
          · have h3 : ds.all rowD = true := by simpa using h3
            have hf := rowFrom_all ds 0
            rw [h3] at hf
            obtain ⟨rs, rfl, hr, ef⟩ := flawV_none (Option.isNone_iff_eq_none.mp hf) (by omega) (by omega)
            rw [ef, flawR_none]
            have hl : rs.length ≤ 1000 := by rw [List.length_map] at h2; omega
            refine ok_of (comp_names rs hl rfl fun r => ?_) ?_
            · array_get_dec
              exact rfl
            · array_get_dec
              have ded := ded_ftw (rs.map (·.n)) [] 0
              refine ⟨.int (((rs.map (·.n)).foldl dedS []).length : Int), by
                simp only [lsetF]
                rw [show (rs.map (·.n)).map PyData.str = (rs.map (·.n)).map (fun x => PyData.str (id x)) from rfl, wStrs_map, Option.bind_some, if_pos (by rw [List.length_map, List.length_map]; omega), List.map_id], ?_⟩
              array_get_dec
              array_mem_dec <;> intro h4 <;> array_get_dec
              · have h4 : ¬ (((rs.map (·.n)).foldl dedS []).length : Int) = ((rs.map Rw.enc).length : Int) := h4
                refine finb ?_
                have : (ftw (rs.map (·.n))).isNone = false := by
                  rw [Bool.eq_false_iff]
                  intro z
                  have := ded.2.mpr (Option.isNone_iff_eq_none.mp z)
                  simp at this h4
                  omega
                rw [this]; rfl
              · have h4 : (((rs.map (·.n)).foldl dedS []).length : Int) = ((rs.map Rw.enc).length : Int) := h4
                have hn : (ftw (rs.map (·.n))).isNone = true := by
                  rw [Option.isNone_iff_eq_none]
                  refine ded.2.mp ?_
                  simp at h4 ⊢
                  omega
                rw [hn, Bool.true_and]
                have h0 : rs ≠ [] := fun e => by subst e; exact absurd h1 (by decide)
                refine ok_of (r7 _ rs hl h0) ?_
                array_get_dec
                array_mem_dec <;> intro h5 <;> array_get_dec
                · refine finb ?_
                  have h5 : (depFlaw rs).isNone = false := by simpa using h5
                  rw [h5]; rfl
                · have h5 : (depFlaw rs).isNone = true := by simpa using h5
                  rw [h5, Bool.true_and]
                  refine ok_of (r9 _ rs hl fun r hq => strOk_name (hr r hq)) ?_
                  array_get_dec
                  rw [zipL_map]
                  refine w_for (fun k env => (∃ s1 s2 s3, env = [.val (.tuple (rs.map Rw.enc)), s1, s2, s3] ∧ ((k = 0 ∧ s1 = .owd []) ∨ (0 < k ∧ s1 = .owt (((labPairs rs).take k).map fun s => (encP s, PyData.bool true))))) ∧ ftw (labPairs rs) = ftwFrom ((labPairs rs).take k) ((labPairs rs).drop k) k) ⟨⟨_, _, _, rfl, .inl ⟨rfl, rfl⟩⟩, rfl⟩ (fun k x env hx hI => ?_) fun env hI => ?_
                  · obtain ⟨⟨s1, s2, s3, rfl, hs1⟩, hf⟩ := hI
                    rw [List.getElem?_map] at hx
                    obtain ⟨⟨p, r⟩, hd, rfl⟩ := Option.map_eq_some_iff.mp hx
                    have hs : (labPairs rs)[k]? = some (p, r.l) := by
                      rw [labPairs, List.zip_map_right, List.getElem?_map, hd]; rfl
                    generalize hlp : labPairs rs = ss at hs hf hs1 ⊢
                    have hsl : ss.length = rs.length := by rw [← hlp, labPairs_len]
                    rw [drop_of hs] at hf
                    obtain ⟨nk, hnk⟩ := nkT_encP (p, r.l)
                    have hk : k < ss.length := (List.getElem?_eq_some_iff.mp hs).1
                    rcases hs1 with ⟨rfl, rfl⟩ | ⟨hk0, rfl⟩
                    · array_get_dec
                      refine ⟨false, by
                        show cmpE .In (.dt (encP (p, r.l))) (.sl 1) _ = _
                        simp only [cmpE, tOf, List.getElem?_cons_zero, List.getElem?_cons_succ, rdO, slD, Option.bind_some, cmpD, inD]
                        have : Mi.keyOf (encP (p, r.l)) = none := rfl
                        rw [this, hnk], ?_⟩
                      array_get_dec
                      refine ⟨.owt [(encP (p, r.l), .bool true)], by
                        show putS (.owd []) (encP (p, r.l)) _ = _
                        have : Mi.keyOf (encP (p, r.l)) = none := rfl
                        simp only [putS, this, hnk], ?_⟩
                      array_get_dec
                      refine ⟨⟨_, _, _, rfl, .inr ⟨by omega, ?_⟩⟩, ?_⟩
                      · rw [take_of hs]; rfl
                      · rw [ftwFrom, if_neg (by simp)] at hf
                        rw [hf, take_of hs]
                    · array_get_dec
                      refine ⟨decide ((p, r.l) ∈ ss.take k), by
                        show cmpE .In (.dt (encP (p, r.l))) (.sl 1) _ = _
                        simp only [cmpE, tOf, List.getElem?_cons_zero, List.getElem?_cons_succ, rdO, isIn, Option.bind_some]
                        rw [hnk, any_encP]
                        simp, ?_⟩
                      array_get_dec
                      array_mem_dec <;> intro h <;> array_get_dec
                      · rw [ftwFrom, if_pos h] at hf
                        rw [hf]
                        exact finb rfl
                      · refine ⟨.owt (((ss.take k).map fun s => (encP s, PyData.bool true)) ++ [(encP (p, r.l), .bool true)]), by
                          show putS (.owt _) (encP (p, r.l)) _ = _
                          simp only [putS]
                          rw [hnk, Option.bind_some, if_pos (by rw [List.length_map, List.length_take]; show _ < 16777216; omega), putD, any_encP, decide_eq_false h]
                          rfl, ?_⟩
                        array_get_dec
                        refine ⟨⟨_, _, _, rfl, .inr ⟨by omega, ?_⟩⟩, ?_⟩
                        · rw [take_of hs, List.map_append]; rfl
                        · rw [ftwFrom, if_neg h] at hf
                          rw [hf, take_of hs]
                  · obtain ⟨⟨s1, s2, s3, rfl, hs1⟩, hf⟩ := hI
                    have : ((pars [] rs).zip rs).length = (labPairs rs).length := by
                      rw [labPairs_len, List.length_zip, pars_len, Nat.min_self]
                    rw [hf, List.length_map, this, List.drop_length]
                    array_get_dec
                    exact finb rfl
    · have h1 : ¬ (1 : Int) ≤ ds.length := h1
      exact finb (by rw [form (by omega)]; rfl)
  all_goals exact finb rfl
theorem r10 (n : Nat) (v : PyData) : run TT (n + 5) 10 [v] = some ((.bool (isNone (flawV v)), false), []) := by
  refine (w10 ?_).eq
  array_get_dec
  refine ok_of (r8 _ v) ?_
  array_get_dec
end K10

set_option maxHeartbeats 4000000
/-! k10: the law's own flaw of a value. -/
namespace Mi
open PySem L2
section
variable {Φ : Fns} {io : Nat → List Pk} {g : MG} {la nr : Nat} {s1 : MS} {key : ME} {tl : MSs}
def labEnd (nr : Nat) (N : En → List PyData → Prop) (Q : Fl × En → Prop) (f : Fl) (e : En) : Prop := match f with
  | .nx => wsl nr e fun s => wIo s fun ds => N (e.set nr .un) ds
  | .rt d fr => Q (.rt d fr, e)
  | _ => False
theorem w_lab {Q : Fl × En → Prop} : ∀ {items : List PyData} {env : En} {L : List (Str × List PyData)} (I : Nat → En → List (Str × List PyData) → Prop) (h0 : I 0 env L)
    (hs : ∀ k x en L, items[k]? = some x → I k en L → wbd g x en fun e1 => ws Φ io [la] s1 e1 fun f e2 => f = .nx ∧ we Φ io key e2 fun d e3 => ∃ x, d = .str x ∧ nr < e3.length ∧ L.length + 1 < lim ∧ wss Φ io [la, nr] tl (e3.set nr (.own ((getL L x).getD []))) (labEnd nr (fun e ds => I (k + 1) e (putL L x ds)) Q))
    (hq : ∀ en L, I items.length en L → Q (.nx, en)), Ok (labL Φ io g la nr s1 key tl items env L) Q
  | [], env, L, I, h0, hs, hq => ok_some.mpr (hq env L h0)
  | it :: rest, env, L, I, h0, hs, hq => by
    show Ok ((bindT g it env).bind fun en1 => (ex Φ io [la] s1 en1).bind fun p => match p.1 with
      | .nx => (ev Φ io key p.2).bind fun q => match q.1 with
        | .str x => if nr < q.2.length ∧ L.length + 1 < lim then (exs Φ io [la, nr] tl (q.2.set nr (.own ((getL L x).getD [])))).bind fun r => match r.1 with
          | .nx => match r.2[nr]? with
            | some (.own ds) => labL Φ io g la nr s1 key tl rest (r.2.set nr .un) (putL L x ds)
            | _ => none
          | .rt d fr => some (.rt d fr, r.2)
          | _ => none
          else none
        | _ => none
      | _ => none) Q
    refine ok_b (wbd_ok (hs 0 it env L rfl h0)) fun e1 h1 => ok_b (ws_ok _ _ _ h1) fun p hp => ?_
    rcases p with ⟨f, e2⟩
    obtain ⟨rfl, hp⟩ := hp
    refine ok_b (we_ok _ _ _ hp) fun q hq' => ?_
    rcases q with ⟨d, e3⟩
    obtain ⟨x, rfl, h2, h3, h4⟩ := hq'
    dsimp only
    rw [if_pos ⟨h2, h3⟩]
    refine ok_b (wss_ok _ _ _ h4) fun r hr => ?_
    rcases r with ⟨f, e5⟩
    cases f with
    | nx =>
      obtain ⟨s, e, hr⟩ := wsl_ok hr
      dsimp only
      rw [e]
      cases s with
      | own ds => exact w_lab (fun k => I (k + 1)) hr (fun k y en L hk hi => hs (k + 1) y en L (by simpa using hk) hi) fun en L h => hq en L h
      | _ => exact hr.elim
    | rt d fr => exact ok_some.mpr hr
    | bk => exact hr.elim
    | ct => exact hr.elim
end
theorem in_strs (xs : List Str) (x : Str) : inD (.str x) (.list (xs.map .str)) = some (decide (x ∈ xs)) := by
  have h1 : ∀ xs : List Str, (xs.map PyData.str).all flatD = true := fun xs => by
    rw [List.all_map]; exact List.all_eq_true.mpr fun _ _ => rfl
  show (if flatD (.str x) = true ∧ (xs.map PyData.str).all flatD = true then _ else _) = _
  rw [if_pos ⟨rfl, h1 xs⟩]
  congr 1
  rw [Bool.eq_iff_iff]
  simp only [List.any_map, List.any_eq_true, decide_eq_true_eq, Function.comp, PyData.eqv]
  constructor
  · rintro ⟨y, h1, h2⟩; rw [← eq_of_beq h2]; exact h1
  · intro h; exact ⟨x, h, by simp⟩
theorem getL_putL (L : List (Str × List PyData)) (x y : Str) (ds : List PyData) : getL (putL L x ds) y = if x = y then some ds else getL L y := by
  induction L with
  | nil => simp [putL, getL]
  | cons e L ih =>
    obtain ⟨z, es⟩ := e
    unfold putL
    by_cases h : z = x
    · subst h
      rw [if_pos rfl]
      by_cases h2 : z = y <;> simp [getL, h2]
    · rw [if_neg h]
      by_cases h2 : x = y
      · subst h2
        simp only [getL, if_neg h, ih, if_pos]
      · simp only [getL, ih, if_neg h2]
theorem putL_len (L : List (Str × List PyData)) (x : Str) (ds : List PyData) : (putL L x ds).length ≤ L.length + 1 := by
  induction L with
  | nil => simp [putL]
  | cons e L ih =>
    obtain ⟨z, es⟩ := e
    unfold putL
    by_cases h : z = x
    · rw [if_pos h]; simp
    · rw [if_neg h]; simp; omega
def keyS : Option Str → Str
  | none => ""
  | some s => s
theorem keyS_inj {p q : Option Str} (hp : p ≠ some "") (hq : q ≠ some "") : keyS p = keyS q ↔ p = q := by
  cases p <;> cases q <;> simp [keyS] at *
  · exact fun h => hq h.symm
  · exact hp
theorem pars_mem : ∀ {line : List Str} {rs : List Rw} {P : Str → Prop}, (∀ x ∈ line, P x) → (∀ r ∈ rs, P r.n) → ∀ p ∈ pars line rs, ∀ s, p = some s → P s
  | line, [], P, _, _, p, hp, s, e => by simp [pars] at hp
  | line, r :: rs, P, h, g, p, hp, s, e => by
    rw [pars, List.mem_cons] at hp
    rcases hp with hp | hp
    · rw [e] at hp
      exact h s (List.mem_of_mem_take (List.mem_of_getLast? hp.symm))
    · refine pars_mem (line := step line r) (rs := rs) (P := P) (fun x hx => ?_) (fun q hq => g q (List.mem_cons_of_mem _ hq)) p hp s e
      rcases List.mem_append.mp hx with hx | hx
      · exact h x (List.mem_of_mem_take hx)
      · rw [List.mem_singleton.mp hx]; exact g r List.mem_cons_self
theorem name_ne {x : Str} (h : nameB x = true) : x ≠ "" := fun e => by subst e; exact absurd h (by decide)
end Mi
namespace K10
open PySem Mi L2
local macro_rules | `(tactic| array_get_dec) => `(tactic| (conv => whnf); repeat (first | refine ⟨_, rfl, ?_⟩ | refine ⟨rfl, ?_⟩ | refine ⟨Nat.le_of_ble_eq_true rfl, ?_⟩); (conv => whnf))
local macro_rules | `(tactic| array_mem_dec) => `(tactic| (first | refine wd ?_ ?_ | refine wdn ?_ ?_ | refine wb ?_ ?_))

theorem w24 {n : Nat} {v : PyData} {Q : (PyData × Bool) × List (List PyData) → Prop} (h : wss (run TT n) (ioOf TT) [] pre24 [.val v, .un, .un, .un, .un, .un, .un] fun f e => match f with
    | .rt d fr => Q ((d, fr), [])
    | .nx => weI (run TT n) (ioOf TT) it24 e fun items e2 => e2[4]? = some (.owd []) ∧ Ok (labL (run TT n) (ioOf TT) (.tp [1, 2]) 4 5 s24 key24 tl24 items (e2.set 4 .un) []) fun r => match r.1 with
      | .rt d fr => Q ((d, fr), [])
      | .nx => Q ((.none, false), [])
      | _ => False
    | _ => False) : Ok (run TT (n + 1) 24 [v]) Q := by
  rw [run_hand (g := g24) (io := [.v]) rfl]
  unfold g24
  refine ok_b (P := fun env => env = [.val v, .un, .un, .un, .un, .un, .un]) (ok_some.mpr rfl) fun env he => ?_
  subst he
  refine ok_b (wss_ok _ _ _ h) fun p hp => ?_
  rcases p with ⟨f, e⟩
  cases f with
  | rt d fr => exact ok_some.mpr hp
  | nx =>
    refine ok_b (weI_ok _ _ _ hp) fun q hq => ?_
    rcases q with ⟨items, e2⟩
    obtain ⟨h4, hq⟩ := hq
    dsimp only
    rw [h4]
    refine ok_b hq fun r hr => ?_
    rcases r with ⟨f, e⟩
    cases f with
    | rt d fr => exact ok_some.mpr hr
    | nx => exact ok_some.mpr hr
    | bk => exact hr.elim
    | ct => exact hr.elim
  | bk => exact hp.elim
  | ct => exact hp.elim
theorem r24 (n : Nat) (v : PyData) : run TT (n + 4) 24 [v] = some ((flawV v, false), []) := by
  refine (w24 ?_).eq
  cases v <;> array_get_dec
  case tuple ds =>
    have form : ¬ (1 ≤ ds.length ∧ ds.length ≤ 200) → flawV (.tuple ds) = .tuple [.str "form"] := fun h => by
      show (if _ then _ else _) = _
      rw [if_neg h]
    array_mem_dec <;> intro h1 <;> array_get_dec
    · have h1 : (0 : Int) < ds.length := h1
      array_mem_dec <;> intro h2 <;> array_get_dec
      · have h2 : ¬ (ds.length : Int) < 201 := h2
        exact fin (form (by omega)).symm
      · have h2 : (ds.length : Int) < 201 := h2
        refine w_for (fun k env => (∃ s1 s2, env = [.val (.tuple ds), s1, s2, .un, .un, .un, .un]) ∧ rowFrom ds 0 = rowFrom (ds.drop k) k) ⟨⟨_, _, rfl⟩, rfl⟩ (fun k x env hx hI => ?_) fun env hI => ?_
        · obtain ⟨⟨s1, s2, rfl⟩, hf⟩ := hI
          rw [enumL_get] at hx
          obtain ⟨d, hd, rfl⟩ := Option.map_eq_some_iff.mp hx
          rw [drop_of hd, rowFrom] at hf
          array_get_dec
          refine ok_of (r23 _ d) ?_
          array_get_dec
          array_mem_dec <;> intro h3 <;> array_get_dec
          · have h3 : rowD d = false := by simpa using h3
            rw [if_neg (by rw [h3]; decide)] at hf
            refine fin ?_
            show _ = if _ then _ else _
            rw [if_pos (by omega), hf]
            show _ = word "row" k
            rw [Nat.zero_add]; rfl
          · have h3 : rowD d = true := by simpa using h3
            rw [if_pos h3] at hf
            exact ⟨⟨_, _, rfl⟩, hf⟩
        · obtain ⟨⟨s1, s2, rfl⟩, hf⟩ := hI
          rw [enumL_len, List.drop_length] at hf
          obtain ⟨rs, rfl, hr, ef⟩ := flawV_none hf (by omega) (by omega)
          rw [ef]
          have hl : rs.length ≤ 1000 := by rw [List.length_map] at h2; omega
          array_get_dec
          -- names
          refine w_for (fun k env => (∃ s1 s2, env = [.val (.tuple (rs.map Rw.enc)), s1, s2, .un, .un, .un, .un]) ∧ ftw (rs.map (·.n)) = ftwFrom ((rs.map (·.n)).take k) ((rs.map (·.n)).drop k) k) ⟨⟨_, _, rfl⟩, rfl⟩ (fun k x env hx hI => ?_) fun env hI => ?_
          · obtain ⟨⟨s1, s2, rfl⟩, hf⟩ := hI
            rw [enumL_get, List.getElem?_map] at hx
            obtain ⟨d, hd, rfl⟩ := Option.map_eq_some_iff.mp hx
            obtain ⟨r, hk, rfl⟩ := Option.map_eq_some_iff.mp hd
            have hkn : (rs.map (·.n))[k]? = some r.n := by rw [List.getElem?_map, hk]; rfl
            rw [drop_of hkn, ftwFrom] at hf
            array_get_dec
            rw [cut_to, ← List.map_take]
            refine ok_of (w_map (fun d => match d with | .tuple (a :: _) => a | _ => .none) rfl (by rw [List.length_map, List.length_take]; show _ ≤ 16777216; omega) fun y hy => ?_) ?_
            · obtain ⟨q, _, rfl⟩ := List.mem_map.mp hy
              array_get_dec
              exact rfl
            · array_get_dec
              have e : ((rs.take (0 + k)).map Rw.enc).map (fun d => match d with | .tuple (a :: _) => a | _ => .none) = ((rs.map (·.n)).take k).map .str := by
                rw [Nat.zero_add, List.map_map, ← List.map_take, List.map_map]; rfl
              refine ok_of (r := inD _ _) (show inD (.str r.n) (.list (((rs.take (0 + k)).map Rw.enc).map _)) = _ from by rw [e]; exact in_strs _ _) ?_
              array_get_dec
              array_mem_dec <;> intro h3 <;> array_get_dec
              · rw [if_pos h3] at hf
                refine fin ?_
                rw [flawR, hf, Nat.zero_add]; rfl
              · rw [if_neg h3] at hf
                exact ⟨⟨_, _, rfl⟩, by rw [hf, take_of hkn]⟩
          · obtain ⟨⟨s1, s2, rfl⟩, hn⟩ := hI
            have hn : ftw (rs.map (·.n)) = none := by
              rw [hn, enumL_len, List.length_map, show rs.length = (rs.map (·.n)).length by rw [List.length_map], List.drop_length]; rfl
            have eR : flawR rs = match depFlaw rs with
              | some k => word "depth" k
              | none => match ftw (labPairs rs) with
                | some k => word "label" k
                | none => .none := by unfold flawR; first | (rw [hn]; done) | (rw [hn]; rfl)
            array_get_dec
            -- depths
            refine w_for (fun k env => (∃ s1 s2, env = [.val (.tuple (rs.map Rw.enc)), s1, s2, .un, .un, .un, .un]) ∧ depFlaw rs = depFrom (if k = 0 then none else (rs[k - 1]?).map (·.d)) (rs.drop k) k) ⟨⟨_, _, rfl⟩, rfl⟩ (fun k x env hx hI => ?_) fun env hI => ?_
            · obtain ⟨⟨s1, s2, rfl⟩, hf⟩ := hI
              rw [enumL_get, List.getElem?_map] at hx
              obtain ⟨d, hd, rfl⟩ := Option.map_eq_some_iff.mp hx
              obtain ⟨r, hk, rfl⟩ := Option.map_eq_some_iff.mp hd
              rw [drop_of hk] at hf
              have nextI : badD (if k = 0 then none else (rs[k - 1]?).map (·.d)) r.d = false → depFlaw rs = depFrom (if k + 1 = 0 then none else (rs[k + 1 - 1]?).map (·.d)) (rs.drop (k + 1)) (k + 1) := fun hb => by
                rw [hf, depFrom, if_neg (by rw [hb]; decide), if_neg (by omega), Nat.add_sub_cancel, hk]; rfl
              have endI : badD (if k = 0 then none else (rs[k - 1]?).map (·.d)) r.d = true → flawR rs = .tuple [.str "depth", .int ((0 + k : Nat) : Int)] := fun hb => by
                rw [eR, hf, depFrom, if_pos hb, Nat.zero_add]; rfl
              by_cases hk0 : k = 0
              · subst hk0
                array_get_dec
                array_mem_dec <;> intro h3 <;> array_get_dec
                · have h3 : ¬ (r.d : Int) = 0 := h3
                  exact fin (endI (by simp [badD]; omega)).symm
                · have h3 : (r.d : Int) = 0 := h3
                  exact ⟨⟨_, _, rfl⟩, nextI (by simp [badD]; omega)⟩
              · have hk1 : k - 1 < rs.length := by
                  have := (List.getElem?_eq_some_iff.mp hk).1
                  omega
                have hp : rs[k - 1]? = some rs[k - 1] := List.getElem?_eq_getElem hk1
                generalize rs[k - 1] = p at hp
                have e0 : (if k = 0 then none else (rs[k - 1]?).map (·.d)) = some p.d := by rw [if_neg hk0, hp]; rfl
                rw [e0] at nextI endI
                array_get_dec
                array_mem_dec <;> intro h <;> array_get_dec
                · have h : ((0 + k : Nat) : Int) = 0 := h
                  omega
                · array_mem_dec <;> intro h3 <;> array_get_dec
                  · array_mem_dec <;> intro h4 <;> array_get_dec
                    · have h4 : (0 : Int) < r.d := h4
                      refine ⟨p.enc, by
                        simp only [idxD]
                        rw [show ((0 + k : Nat) : Int) - 1 = ((k - 1 : Nat) : Int) by omega]
                        exact Mi.atI_nat (by rw [List.getElem?_map, hp]; rfl), ?_⟩
                      array_get_dec
                      array_mem_dec <;> intro h5 <;> array_get_dec
                      · have h5 : ¬ (r.d : Int) ≤ p.d + 1 := h5
                        exact fin (endI (by simp [badD]; omega)).symm
                      · have h5 : (r.d : Int) ≤ p.d + 1 := h5
                        exact ⟨⟨_, _, rfl⟩, nextI (by simp [badD]; omega)⟩
                    · have h4 : ¬ (0 : Int) < r.d := h4
                      exact fin (endI (by simp [badD]; omega)).symm
                  · have h3 : ¬ (0 : Int) < ((0 + k : Nat) : Int) := h3
                    omega
            · obtain ⟨⟨s1, s2, rfl⟩, hd⟩ := hI
              have hd : depFlaw rs = none := by
                rw [hd, enumL_len, List.length_map, List.drop_length]; rfl
              have eR : flawR rs = match ftw (labPairs rs) with
                | some k => word "label" k
                | none => .none := by rw [eR, hd]
              array_get_dec
              -- labels
              refine w_lab (fun k env L => (∃ s1 s2, env = [.val (.tuple (rs.map Rw.enc)), s1, s2, .own (((rs.take k).foldl step []).map .str), .un, .un, .un]) ∧ ftw (labPairs rs) = ftwFrom ((labPairs rs).take k) ((labPairs rs).drop k) k ∧ L.length ≤ k ∧ ∀ x, (getL L x).getD [] = (((labPairs rs).take k).filterMap fun q => if keyS q.1 = x then some q.2 else none).map .str) ⟨⟨_, _, rfl⟩, rfl, Nat.le_refl 0, fun x => rfl⟩ (fun k x env L hx hI => ?_) fun env L hI => ?_
              · obtain ⟨⟨s1, s2, rfl⟩, hf, hL, hg⟩ := hI
                rw [enumL_get, List.getElem?_map] at hx
                obtain ⟨d, hd, rfl⟩ := Option.map_eq_some_iff.mp hx
                obtain ⟨r, hk, rfl⟩ := Option.map_eq_some_iff.mp hd
                have hkl : k < rs.length := (List.getElem?_eq_some_iff.mp hk).1
                have hps : (pars [] rs)[k]? = some ((((rs.take k).foldl step []).take r.d).getLast?) := by
                  have e : rs = rs.take k ++ (r :: rs.drop (k + 1)) := by rw [← drop_of hk, List.take_append_drop]
                  conv => lhs; rw [e]
                  rw [show rs.take k ++ (r :: rs.drop (k + 1)) = (rs.take k ++ [r]) ++ rs.drop (k + 1) by simp]
                  have app : ∀ (a b : List Rw) (line : List Str), pars line (a ++ b) = pars line a ++ pars (a.foldl step line) b := fun a => by
                    induction a with
                    | nil => intro b line; rfl
                    | cons c a ih => intro b line; rw [List.cons_append, pars, ih, pars]; rfl
                  rw [app, List.getElem?_append_left (by rw [pars_len]; simp; omega), pars_snoc, List.getElem?_append_right (by rw [pars_len]; simp; omega), pars_len]
                  have : k - (rs.take k).length = 0 := by rw [List.length_take]; omega
                  rw [this]; rfl
                have hlk : (labPairs rs)[k]? = some ((((rs.take k).foldl step []).take r.d).getLast?, r.l) := by
                  rw [labPairs, List.getElem?_zip_eq_some]
                  exact ⟨hps, by rw [List.getElem?_map, hk]; rfl⟩
                have hpn : ∀ q ∈ pars [] rs, q ≠ some "" := fun q hq e => (pars_mem (P := fun s => s ≠ "") (by simp) (fun r hq => name_ne (hr r hq).1) q hq "" e) rfl
                have hok : ∀ x ∈ ((rs.take k).foldl step []).take r.d, PyData.strOk x = true := fun x hx => line_mem (line := []) (P := fun x => PyData.strOk x = true) (by simp) (fun q hq => strOk_name (hr q (List.mem_of_mem_take hq))) x (List.mem_of_mem_take hx)
                have hll : ((rs.take k).foldl step []).length ≤ k := by
                  have := line_len [] (rs.take k)
                  simp at this
                  omega
                rw [drop_of hlk] at hf
                -- the rest, once the key is known
                have tail : ∀ (p : Option Str), (((rs.take k).foldl step []).take r.d).getLast? = p → wss (run TT (n + 3)) (ioOf TT) [4, 5] tl24 [.val (.tuple (rs.map Rw.enc)), .val (.int ((0 + k : Nat) : Int)), .val r.enc, .own ((((rs.take k).foldl step []).take r.d).map .str), .un, .own ((getL L (keyS p)).getD []), .un]
                    (labEnd 5 (fun e ds => ((∃ s1 s2, e = [.val (.tuple (rs.map Rw.enc)), s1, s2, .own (((rs.take (k + 1)).foldl step []).map .str), .un, .un, .un]) ∧ ftw (labPairs rs) = ftwFrom ((labPairs rs).take (k + 1)) ((labPairs rs).drop (k + 1)) (k + 1) ∧ (putL L (keyS p) ds).length ≤ k + 1 ∧ ∀ x, (getL (putL L (keyS p) ds) x).getD [] = (((labPairs rs).take (k + 1)).filterMap fun q => if keyS q.1 = x then some q.2 else none).map .str)) fun r => match r.1 with
                      | .rt d fr => ((d, fr), ([] : List (List PyData))) = ((flawR rs, false), [])
                      | .nx => ((PyData.none, false), ([] : List (List PyData))) = ((flawR rs, false), [])
                      | _ => False) := fun p hp => by
                  rw [hp] at hlk hf
                  rw [hg]
                  have hm : ∀ q ∈ (labPairs rs).take k, (keyS q.1 = keyS p ↔ q.1 = p) := fun q hq => by
                    refine keyS_inj ?_ ?_
                    · have : q.1 ∈ pars [] rs := (List.of_mem_zip (List.mem_of_mem_take hq : (q.1, q.2) ∈ labPairs rs)).1
                      exact hpn _ this
                    · have : p ∈ pars [] rs := (List.of_mem_zip (List.mem_of_getElem? hlk : (p, r.l) ∈ labPairs rs)).1
                      exact hpn _ this
                  have hin : (r.l ∈ ((labPairs rs).take k).filterMap fun q => if keyS q.1 = keyS p then some q.2 else none) ↔ (p, r.l) ∈ (labPairs rs).take k := by
                    rw [List.mem_filterMap]
                    constructor
                    · rintro ⟨q, hq, e⟩
                      split at e
                      · rename_i hk2
                        injection e with e
                        rw [← (hm q hq).mp hk2, ← e]; exact hq
                      · cases e
                    · intro h
                      exact ⟨_, h, by simp⟩
                  array_get_dec
                  refine ⟨_, in_strs _ _, ?_⟩
                  array_get_dec
                  array_mem_dec <;> intro h3 <;> array_get_dec
                  · rw [ftwFrom, if_pos (hin.mp h3)] at hf
                    refine fin ?_
                    rw [eR, hf, Nat.zero_add]; rfl
                  · rw [ftwFrom, if_neg (fun z => h3 (hin.mpr z))] at hf
                    refine ⟨by
                      rw [List.length_map]
                      have := List.length_filterMap_le (fun q => if keyS q.1 = keyS p then some q.2 else none) ((labPairs rs).take k)
                      rw [List.length_take] at this
                      show _ < 16777216
                      omega, ?_⟩
                    array_get_dec
                    refine ⟨by
                      rw [List.length_map, List.length_take]
                      show _ < 16777216
                      omega, ?_⟩
                    array_get_dec
                    refine ⟨⟨.val (.int ((0 + k : Nat) : Int)), .val r.enc, ?_⟩, by rw [hf, take_of hlk], ?_, fun x => ?_⟩
                    · rw [take_of hk, List.foldl_append]
                      show _ = [_, _, _, Sl.own ((((rs.take k).foldl step []).take r.d ++ [r.n]).map .str), _, _, _]
                      rw [List.map_append]; rfl
                    · have := putL_len L (keyS p) ((((labPairs rs).take k).filterMap fun q => if keyS q.1 = keyS p then some q.2 else none).map .str ++ [.str r.l])
                      exact Nat.le_trans this (by omega)
                    · rw [getL_putL, take_of hlk, List.filterMap_append, List.map_append]
                      by_cases h4 : keyS p = x
                      · rw [if_pos h4, ← h4]
                        simp
                      · rw [if_neg h4, hg]
                        simp [h4]
                array_get_dec
                rw [cut_to, ← List.map_take]
                refine ⟨_, ne_nil hok, ?_⟩
                rcases List.eq_nil_or_concat (((rs.take k).foldl step []).take r.d) with e | ⟨ys, y, e⟩
                · have := tail none (by rw [e]; rfl)
                  rw [e] at this ⊢
                  array_get_dec
                  exact ⟨by show _ < 16777216; omega, this⟩
                · have := tail (some y) (by rw [e]; simp)
                  rw [e, List.concat_eq_append, List.map_append] at this ⊢
                  refine wt (by simp) ?_
                  array_get_dec
                  refine ⟨.str y, by simp only [idxD]; exact Mi.atI_last, ?_⟩
                  array_get_dec
                  exact ⟨by show _ < 16777216; omega, this⟩
              · obtain ⟨⟨s1, s2, rfl⟩, hf, hL, hg⟩ := hI
                rw [eR, hf, enumL_len, List.length_map, show rs.length = (labPairs rs).length by rw [labPairs_len], List.drop_length]
                exact fin rfl
    · have h1 : ¬ (0 : Int) < ds.length := h1
      exact fin (form (by omega)).symm
  all_goals exact fin rfl
end K10

set_option maxHeartbeats 4000000
/-! k10: what is drawn. -/
namespace Mi
open PySem L2
def Pot (p : List PyData) : Prop := ∃ a b : Int, p = [.int a, .int b] ∧ 0 ≤ a ∧ 0 ≤ b ∧ b < 2147483648
theorem mul_lit {i : Int} {j : Int} (h : j.natAbs < 2 ^ 64) : binD .Mult (.int i) (.int j) = some (.int (i * j)) := by
  simp only [binD]; rw [if_pos (.inr h)]
theorem mul_sm {i : Int} {j : Int} (h : i.natAbs < 2 ^ 64) : binD .Mult (.int i) (.int j) = some (.int (i * j)) := by
  simp only [binD]; rw [if_pos (.inl h)]
/-- what a draw leaves -/
def Drawn (m : Int) (r : (PyData × Bool) × List (List PyData)) : Prop := ∃ d p', r = ((.int d, false), [p']) ∧ 0 ≤ d ∧ d < m ∧ Pot p'
def Picked (xs : List PyData) (r : (PyData × Bool) × List (List PyData)) : Prop := ∃ x p', r = ((x, false), [p']) ∧ x ∈ xs ∧ Pot p'
theorem strs_of {W : List Str} : ∀ {acc : List PyData}, (∀ y ∈ acc, y ∈ W.map PyData.str) → ∃ ys : List Str, acc = ys.map .str ∧ ∀ y ∈ ys, y ∈ W
  | [], _ => ⟨[], rfl, by simp⟩
  | a :: acc, h => by
    obtain ⟨ys, e, hy⟩ := strs_of (acc := acc) fun y hy => h y (List.mem_cons_of_mem _ hy)
    obtain ⟨x, hx, rfl⟩ := List.mem_map.mp (h a List.mem_cons_self)
    refine ⟨x :: ys, by rw [e]; rfl, fun y hy' => ?_⟩
    rcases List.mem_cons.mp hy' with e | hy'
    · rw [e]; exact hx
    · exact hy y hy'
def drawnWords : List Str := ["a", "dog", "cat", "x1", "2"]
def wordsUpTo : Nat → List (List Str)
  | 0 => [[]]
  | n + 1 => [] :: (wordsUpTo n).flatMap fun l => drawnWords.map fun w => w :: l
theorem wordsUpTo_mem : ∀ (n : Nat) (l : List Str), l.length ≤ n → (∀ y ∈ l, y ∈ drawnWords) → l ∈ wordsUpTo n
  | 0, [], _, _ => by simp [wordsUpTo]
  | 0, _ :: _, h, _ => by simp at h
  | n + 1, [], _, _ => by simp [wordsUpTo]
  | n + 1, a :: l, h, hm => by
    rw [wordsUpTo]
    refine List.mem_cons_of_mem _ (List.mem_flatMap.mpr ⟨l, wordsUpTo_mem n l (by simpa using h) fun y hy => hm y (List.mem_cons_of_mem _ hy), ?_⟩)
    exact List.mem_map.mpr ⟨a, hm a List.mem_cons_self, rfl⟩
theorem words_ok : ∀ l ∈ wordsUpTo 3, wordsB (Txt.join " " l) = true ∧ (Txt.join " " l).length ≤ 11 ∧ (l.map (·.length)).sum + l.length * 1 ≤ 20 := by decide +kernel
end Mi
namespace K10
open PySem Mi L2
local macro_rules | `(tactic| array_get_dec) => `(tactic| (conv => whnf); repeat (first | refine ⟨_, rfl, ?_⟩ | refine ⟨rfl, ?_⟩ | refine ⟨Nat.le_of_ble_eq_true rfl, ?_⟩); (conv => whnf))
local macro_rules | `(tactic| array_mem_dec) => `(tactic| (first | refine wd ?_ ?_ | refine wdn ?_ ?_ | refine wb ?_ ?_))

theorem r15 (n : Nat) (ns : List Int) (k : Nat) : Ok (run TT (n + 1) 15 [.list (ns.map .int), .int k]) fun r => ∃ p, r = ((.list p, true), []) ∧ Pot p := by
  refine w15 ?_
  have fin : ∀ c : Int, 0 ≤ c → Pot [.int (if c - 10 ^ (18 : Int).toNat > 0 then c - 10 ^ (18 : Int).toNat else 0), .int ((((c % 2147483549) * 40014 + 6007 * (k : Int)) + 1231) % 2147483563 + 1)] := fun c hc => by
    refine ⟨_, _, rfl, ?_, ?_, ?_⟩
    · split <;> omega
    · omega
    · omega
  array_get_dec
  array_mem_dec <;> intro h <;> array_get_dec
  · have h : (k : Int) < ((ns.map PyData.int).length : Int) := h
    obtain ⟨i, hi⟩ : ∃ i, ns[k]? = some i := ⟨_, List.getElem?_eq_getElem (by simpa using h)⟩
    refine ⟨.int i, by simp only [idxD]; exact Mi.atI_nat (by rw [List.getElem?_map, hi]; rfl), ?_⟩
    array_get_dec
    refine ⟨_, mul_lit (by decide), ?_⟩
    array_get_dec
    exact fin (if i < 0 then -i else i) (by split <;> omega)
  · refine ⟨_, mul_lit (by decide), ?_⟩
    array_get_dec
    exact fin (2003 * k + 311) (by omega)
theorem r16 (n : Nat) {p : List PyData} (hp : Pot p) {m : Int} (h0 : 0 < m) (hm : m < 1073741824) : Ok (run TT (n + 1) 16 [.list p, .int m]) (Drawn m) := by
  obtain ⟨a, b, rfl, ha, hb, hb2⟩ := hp
  refine w16 ?_
  array_get_dec
  array_mem_dec <;> intro h <;> array_get_dec
  · refine ⟨.tuple [.int (a / m), .int (a % m)], by simp only [bltD]; rw [if_pos ⟨h0, hm⟩], ?_⟩
    array_get_dec
    exact ⟨_, _, rfl, Int.emod_nonneg _ (by omega), Int.emod_lt_of_pos _ h0, _, _, rfl, Int.ediv_nonneg ha (by omega), hb, hb2⟩
  · refine ⟨_, mul_lit (by decide), ?_⟩
    array_get_dec
    refine ⟨_, mul_sm (by omega), ?_⟩
    array_get_dec
    refine ⟨.int _, by simp only [binD]; rw [if_pos h0], ?_⟩
    array_get_dec
    exact ⟨_, _, rfl, Int.emod_nonneg _ (by omega), Int.emod_lt_of_pos _ h0, _, _, rfl, ha, by omega, by omega⟩
theorem r17 (n : Nat) {p : List PyData} (hp : Pot p) {xs : List PyData} (h0 : xs ≠ []) (hl : xs.length ≤ 1000) : Ok (run TT (n + 2) 17 [.list p, .list xs]) (Picked xs) := by
  refine w17 ?_
  array_get_dec
  have hl0 : 0 < xs.length := List.length_pos_iff.mpr h0
  refine (r16 _ hp (m := xs.length) (by omega) (by omega)).mono ?_
  rintro _ ⟨d, p', rfl, h1, h2, hp'⟩
  array_get_dec
  obtain ⟨k, rfl⟩ : ∃ k : Nat, d = k := ⟨d.toNat, by omega⟩
  have hk : k < xs.length := by omega
  refine ⟨xs[k], by simp only [idxD]; exact Mi.atI_nat (List.getElem?_eq_getElem hk), ?_⟩
  array_get_dec
  exact ⟨_, _, rfl, List.getElem_mem hk, hp'⟩
theorem r18 (n : Nat) {p : List PyData} (hp : Pot p) : Ok (run TT (n + 3) 18 [.list p]) fun r => ∃ w p', r = ((.str w, false), [p']) ∧ wordsB w = true ∧ w.length ≤ 11 ∧ Pot p' := by
  refine w18 ?_
  array_get_dec
  refine (r16 _ hp (m := 4) (by omega) (by omega)).mono ?_
  rintro _ ⟨d, p', rfl, h1, h2, hp'⟩
  array_get_dec
  refine ⟨⟨by omega, by omega⟩, ?_⟩
  array_get_dec
  have hl : (Mi.intsFrom 0 d.toNat).length = d.toNat := by simp [Mi.intsFrom]
  refine w_comp (fun acc en => ∃ p, Pot p ∧ (∃ s1, en = [.own p, s1] ∧ nOwn s1 = true) ∧ ∀ y ∈ acc, y ∈ drawnWords.map PyData.str) (by rw [hl]; show _ ≤ 16777216; omega) ⟨p', hp', ⟨.un, rfl, rfl⟩, by simp⟩ (fun acc x en hx hI => ?_) fun acc en hlen hI => ?_
  · obtain ⟨p, hp, ⟨s1, rfl, hs⟩, hm⟩ := hI
    array_get_dec
    refine (r17 _ hp (xs := drawnWords.map PyData.str) (by decide) (by decide)).mono ?_
    rintro _ ⟨y, p2, rfl, hy, hp2⟩
    array_get_dec
    refine ⟨p2, hp2, ⟨_, rfl, ?_⟩, fun z hz => ?_⟩
    · rfl
    · rcases List.mem_append.mp hz with hz | hz
      · exact hm z hz
      · rw [List.mem_singleton.mp hz]; exact hy
  · obtain ⟨p, hp, ⟨s1, rfl, hs⟩, hm⟩ := hI
    obtain ⟨ys, rfl, hys⟩ := strs_of hm
    have hyl : ys.length ≤ 3 := by rw [List.length_map, hl] at hlen; omega
    obtain ⟨g1, g2, g3⟩ := words_ok ys (wordsUpTo_mem 3 ys hyl hys)
    array_get_dec
    refine ⟨.str (Txt.join " " ys), by
      simp only [metD]
      rw [show ys.map PyData.str = ys.map (fun x => PyData.str (id x)) from rfl, wStrs_map, Option.bind_some, List.map_id, if_pos]
      exact ⟨by show _ ≤ 16777216; exact Nat.le_trans g3 (by decide), by show _ ≤ 16777216; omega⟩, ?_⟩
    array_get_dec
    exact ⟨_, _, rfl, g1, g2, hp⟩
end K10

set_option maxHeartbeats 4000000
/-! k10: drawn trees. -/
namespace Mi
open PySem L2
theorem ftwFrom_snoc {α : Type} [DecidableEq α] : ∀ (seen l : List α) (x : α) (k : Nat), ftwFrom seen l k = none → x ∉ seen ++ l → ftwFrom seen (l ++ [x]) k = none
  | seen, [], x, k, _, h => by
    rw [List.nil_append, ftwFrom, if_neg (by simpa using h)]; rfl
  | seen, y :: l, x, k, h1, h2 => by
    rw [ftwFrom] at h1
    by_cases hy : y ∈ seen
    · rw [if_pos hy] at h1; cases h1
    · rw [if_neg hy] at h1
      rw [List.cons_append, ftwFrom, if_neg hy]
      exact ftwFrom_snoc _ l x _ h1 (by simpa using h2)
theorem ftw_snoc {α : Type} [DecidableEq α] {l : List α} {x : α} (h : ftw l = none) (hx : x ∉ l) : ftw (l ++ [x]) = none := ftwFrom_snoc [] l x 0 h (by simpa using hx)
theorem depFrom_snoc : ∀ (prev : Option Nat) (l : List Rw) (x : Rw) (k : Nat), depFrom prev l k = none → badD ((l.getLast?.map (·.d)).or prev) x.d = false → depFrom prev (l ++ [x]) k = none
  | prev, [], x, k, _, h => by
    rw [List.nil_append, depFrom, if_neg (by simp at h; rw [h]; decide)]; rfl
  | prev, y :: l, x, k, h1, h2 => by
    rw [depFrom] at h1
    by_cases hy : badD prev y.d = true
    · rw [if_pos hy] at h1; cases h1
    · rw [if_neg hy] at h1
      rw [List.cons_append, depFrom, if_neg hy]
      refine depFrom_snoc _ l x _ h1 ?_
      rw [← h2]
      congr 1
      cases l with
      | nil => rfl
      | cons z l => rw [List.getLast?_cons_cons]; cases e : (z :: l).getLast? with
        | none => simp at e
        | some w => rfl
theorem labPairs_snoc (rs : List Rw) (x : Rw) : labPairs (rs ++ [x]) = labPairs rs ++ [(((rs.foldl step []).take x.d).getLast?, x.l)] := by
  rw [labPairs, pars_snoc, List.map_append, List.zip_append (by rw [pars_len, List.length_map])]; rfl
/-- a tree without a flaw -/
structure GoodT (rs : List Rw) : Prop where
  ok : ∀ r ∈ rs, r.Ok
  nm : ftw (rs.map (·.n)) = none
  dp : depFlaw rs = none
  lb : ftw (labPairs rs) = none
theorem rowFrom_ok : ∀ {rs : List Rw} {k : Nat}, (∀ r ∈ rs, r.Ok) → rowFrom (rs.map Rw.enc) k = none
  | [], _, _ => rfl
  | r :: rs, k, h => by
    rw [List.map_cons, rowFrom, if_pos (rowD_of (h r List.mem_cons_self))]
    exact rowFrom_ok fun q hq => h q (List.mem_cons_of_mem _ hq)
theorem GoodT.flaw {rs : List Rw} (h : GoodT rs) (h1 : 1 ≤ rs.length) (h2 : rs.length ≤ 200) : flawV (.tuple (rs.map Rw.enc)) = .none := by
  show (if _ then _ else _) = _
  rw [if_pos (by rw [List.length_map]; exact ⟨h1, h2⟩), rowFrom_ok h.ok, dec_encs]
  show flawR rs = .none
  unfold flawR
  rw [h.nm, h.dp, h.lb]
/-- lookups in a dict of text keys -/
theorem look_put (kvs : List (PyData × PyData)) (x y : Str) (v : PyData) : lookD (putD kvs (.str x) v) (.str y) = if x = y then some v else lookD kvs (.str y) := by
  unfold lookD putD
  split
  · rename_i h
    rw [List.find?_map]
    have e : ((fun p : PyData × PyData => PyData.eqv p.1 (.str y)) ∘ fun p => if PyData.eqv p.1 (.str x) = true then (p.1, v) else p) = fun p => PyData.eqv p.1 (.str y) := by
      funext p; simp only [Function.comp]; split <;> rfl
    rw [e]
    by_cases hxy : x = y
    · subst hxy
      rw [if_pos rfl]
      rw [List.any_eq_true] at h
      obtain ⟨p, hp, hpe⟩ := h
      cases hf : kvs.find? (fun p => PyData.eqv p.1 (.str x)) with
      | none => exact absurd hpe (by simpa using List.find?_eq_none.mp hf p hp)
      | some q =>
        have := List.find?_some hf
        simp [this]
    · rw [if_neg hxy]
      cases hf : kvs.find? (fun p => PyData.eqv p.1 (.str y)) with
      | none => rfl
      | some q =>
        have h1 := List.find?_some hf
        have h2 : ¬ PyData.eqv q.1 (.str x) = true := fun h2 => by
          cases hq : q.1 with
          | str z => rw [hq] at h1 h2; simp only [PyData.eqv] at h1 h2; exact hxy ((eq_of_beq h2).symm.trans (eq_of_beq h1))
          | none => rw [hq] at h1; simp only [PyData.eqv] at h1; cases h1
          | bool b => rw [hq] at h1; simp only [PyData.eqv] at h1; cases h1
          | int i => rw [hq] at h1; simp only [PyData.eqv] at h1; cases h1
          | list l => rw [hq] at h1; simp only [PyData.eqv] at h1; cases h1
          | tuple l => rw [hq] at h1; simp only [PyData.eqv] at h1; cases h1
          | dict l => rw [hq] at h1; simp only [PyData.eqv] at h1; cases h1
        simp [h2]
  · rename_i h
    rw [List.find?_append]
    have e : PyData.eqv (.str x) (.str y) = (x == y) := by simp only [PyData.eqv]
    by_cases hxy : x = y
    · subst hxy
      rw [if_pos rfl]
      have : kvs.find? (fun p => PyData.eqv p.1 (.str x)) = none := by
        rw [List.find?_eq_none]
        intro p hp hh
        exact h (List.any_eq_true.mpr ⟨p, hp, hh⟩)
      rw [this]
      simp [e]
    · rw [if_neg hxy]
      have : (x == y) = false := by simpa using hxy
      simp [e, this]
theorem put_len (kvs : List (PyData × PyData)) (k v : PyData) : (putD kvs k v).length ≤ kvs.length + 1 := by
  unfold putD; split <;> simp
/-! names and labels that are drawn -/
def preN : List Str := ["n", "sec", "x0"]
def sufL : List Str := ["", "a"]
def nameOf (pre : Str) (k : Nat) : Str := pre ++ Str.ofString (toString (k : Int))
def labOf (j : Nat) (suf : Str) : Str := Str.ofString (toString (j : Int)) ++ suf
theorem names_ok : ∀ pre ∈ preN, ∀ k ∈ List.range 12, nameB (nameOf pre k) = true ∧ nameOf pre k ≠ "act" := by decide +kernel
theorem names_ne : ∀ pre ∈ preN, ∀ k ∈ List.range 12, ∀ pre' ∈ preN, ∀ k' ∈ List.range k, nameOf pre k ≠ nameOf pre' k' := by decide +kernel
theorem labs_ok : ∀ suf ∈ sufL, ∀ k ∈ List.range 13, plainB 1 4 (labOf k suf) = true := by decide +kernel
theorem labs_ne : ∀ suf ∈ sufL, ∀ k ∈ List.range 13, ∀ suf' ∈ sufL, ∀ k' ∈ List.range k, labOf k suf ≠ labOf k' suf' := by decide +kernel
/-- how a tree stands that is being drawn -/
structure Tr (rs : List Rw) (kvs : List (PyData × PyData)) (M : Str → Nat) : Prop where
  good : GoodT rs
  names : ∀ r ∈ rs, r.n = "act" ∨ ∃ pre ∈ preN, ∃ k, k + 1 < rs.length ∧ r.n = nameOf pre k
  labs : ∀ q ∈ labPairs rs, ∀ s, q.1 = some s → ∃ suf ∈ sufL, ∃ j, 1 ≤ j ∧ j ≤ M s ∧ q.2 = labOf j suf
  dep : ∃ r, rs.getLast? = some r ∧ (rs.foldl step []).length = r.d + 1
  mM : ∀ s, M s + 1 ≤ rs.length
  look : ∀ s, lookD kvs (.str s) = if M s = 0 then none else some (.int (M s : Nat))
  klen : kvs.length ≤ rs.length
def upM (M : Str → Nat) (s : Str) : Str → Nat := fun x => if x = s then M s + 1 else M x
theorem Tr.next {rs : List Rw} {kvs : List (PyData × PyData)} {M : Str → Nat} (h : Tr rs kvs M) (hl : rs.length ≤ 12) {d : Nat} {p pre suf w : Str} (hd : 1 ≤ d) (hd6 : d ≤ 6) (hdl : d ≤ (rs.foldl step []).length)
    (hp : ((rs.foldl step []).take d).getLast? = some p) (hpre : pre ∈ preN) (hsuf : suf ∈ sufL) (hw : wordsB w = true) {k : Nat} (hk : k + 1 = rs.length) :
    Tr (rs ++ [⟨nameOf pre k, d, labOf (M p + 1) suf, w⟩]) (putD kvs (.str p) (.int ((M p + 1 : Nat) : Int))) (upM M p) := by
  have hM := h.mM p
  have n1 := names_ok pre hpre k (List.mem_range.mpr (by omega))
  have l1 := labs_ok suf hsuf (M p + 1) (List.mem_range.mpr (by omega))
  have hmono : ∀ s, M s ≤ upM M p s := fun s => by unfold upM; split; (rename_i e; subst e; omega); omega
  obtain ⟨last, hlast, hlen⟩ := h.dep
  constructor
  · constructor
    · intro r hr
      rcases List.mem_append.mp hr with hr | hr
      · exact h.good.ok r hr
      · rw [List.mem_singleton.mp hr]; exact ⟨n1.1, hd6, l1, hw⟩
    · rw [List.map_append]
      refine ftw_snoc h.good.nm fun hm => ?_
      obtain ⟨r, hr, e⟩ := List.mem_map.mp hm
      have e : r.n = nameOf pre k := e
      rcases h.names r hr with ha | ⟨pre', hp', k', hk', ha⟩
      · exact n1.2 (e.symm.trans ha)
      · exact names_ne pre hpre k (List.mem_range.mpr (by omega)) pre' hp' k' (List.mem_range.mpr (by omega)) (e.symm.trans ha)
    · refine depFrom_snoc none rs _ 0 h.good.dp ?_
      rw [hlast]
      simp [badD]
      omega
    · rw [labPairs_snoc]
      refine ftw_snoc h.good.lb fun hm => ?_
      rw [hp] at hm
      obtain ⟨suf', hs', j, hj1, hj2, e⟩ := h.labs _ hm p rfl
      exact labs_ne suf hsuf (M p + 1) (List.mem_range.mpr (by omega)) suf' hs' j (List.mem_range.mpr (by omega)) e
  · intro r hr
    rw [List.length_append, List.length_singleton]
    rcases List.mem_append.mp hr with hr | hr
    · rcases h.names r hr with ha | ⟨pre', hp', k', hk', ha⟩
      · exact .inl ha
      · exact .inr ⟨pre', hp', k', by omega, ha⟩
    · rw [List.mem_singleton.mp hr]; exact .inr ⟨pre, hpre, k, by omega, rfl⟩
  · intro q hq s hs
    rw [labPairs_snoc] at hq
    rcases List.mem_append.mp hq with hq | hq
    · obtain ⟨suf', hs', j, hj1, hj2, e⟩ := h.labs q hq s hs
      exact ⟨suf', hs', j, hj1, Nat.le_trans hj2 (hmono s), e⟩
    · rw [List.mem_singleton.mp hq, hp] at hs
      rw [List.mem_singleton.mp hq]
      cases hs
      exact ⟨suf, hsuf, M p + 1, by omega, by simp [upM], rfl⟩
  · refine ⟨⟨nameOf pre k, d, labOf (M p + 1) suf, w⟩, by simp, ?_⟩
    rw [List.foldl_append]
    show (List.take d _ ++ [_]).length = d + 1
    rw [List.length_append, List.length_take, List.length_singleton]
    omega
  · intro s
    rw [List.length_append, List.length_singleton]
    have := h.mM s
    unfold upM; split <;> omega
  · intro s
    rw [look_put]
    unfold upM
    by_cases e : p = s
    · subst e; simp
    · have e' : ¬ s = p := fun z => e z.symm
      simp only [if_neg e, if_neg e']; exact h.look s
  · rw [List.length_append, List.length_singleton]
    have := put_len kvs (.str p) (.int ((M p + 1 : Nat) : Int))
    have := h.klen
    omega
theorem Tr.start {w : Str} (hw : wordsB w = true) : Tr [⟨"act", 0, "0", w⟩] [] fun _ => 0 := by
  constructor
  · constructor
    · intro r hr
      rw [List.mem_singleton.mp hr]
      exact ⟨by show nameB "act" = true; decide +kernel, Nat.zero_le _, by show plainB 1 4 "0" = true; decide +kernel, hw⟩
    · rfl
    · rfl
    · rfl
  · intro r hr
    rw [List.mem_singleton.mp hr]; exact .inl rfl
  · intro q hq s hs
    have hq : q ∈ [((none : Option Str), ("0" : Str))] := hq
    rw [List.mem_singleton.mp hq] at hs
    cases hs
  · exact ⟨_, rfl, rfl⟩
  · intro s; simp
  · intro s; rfl
  · simp
end Mi
namespace K10
open PySem Mi L2
local macro_rules | `(tactic| array_get_dec) => `(tactic| (conv => whnf); repeat (first | refine ⟨_, rfl, ?_⟩ | refine ⟨rfl, ?_⟩ | refine ⟨Nat.le_of_ble_eq_true rfl, ?_⟩); (conv => whnf))
local macro_rules | `(tactic| array_mem_dec) => `(tactic| (first | refine wd ?_ ?_ | refine wdn ?_ ?_ | refine wb ?_ ?_))

theorem r19 (n : Nat) {p : List PyData} (hp : Pot p) : Ok (run TT (n + 4) 19 [.list p, .int 12]) fun r => ∃ rs p', r = ((.tuple (rs.map Rw.enc), false), [p']) ∧ GoodT rs ∧ 1 ≤ rs.length ∧ rs.length ≤ 13 ∧ Pot p' := by
  refine w19 ?_
  array_get_dec
  refine (r18 _ hp).mono ?_
  rintro _ ⟨w, p1, rfl, hw, _, hp1⟩
  array_get_dec
  refine (r16 _ hp1 (m := 13) (by omega) (by omega)).mono ?_
  rintro _ ⟨d, p2, rfl, h1, h2, hp2⟩
  array_get_dec
  refine ⟨⟨by omega, by omega⟩, ?_⟩
  have hl : (Mi.intsFrom 0 d.toNat).length = d.toNat := by simp [Mi.intsFrom]
  refine w_for (fun k env => ∃ p rs kvs M s2 s6 s7, Pot p ∧ env = [.own p, .val (.int 12), s2, .own (rs.map Rw.enc), .own ((rs.foldl step []).map .str), .owd kvs, s6, s7] ∧ rs.length = k + 1 ∧ Tr rs kvs M) ⟨p2, [⟨"act", 0, "0", w⟩], [], fun _ => 0, _, _, _, hp2, rfl, rfl, Tr.start hw⟩ (fun k x env hx hI => ?_) fun env hI => ?_
  · obtain ⟨p, rs, kvs, M, s2, s6, s7, hp, rfl, hrl, tr⟩ := hI
    have hk : k < d.toNat := by
      obtain ⟨hk, _⟩ := List.getElem?_eq_some_iff.mp hx
      rw [hl] at hk; exact hk
    obtain ⟨last, hlast, hlen⟩ := tr.dep
    have hx : x = .int ((0 : Int) + (k : Int)) := by
      simp [Mi.intsFrom] at hx
      obtain ⟨a, ha, rfl⟩ := hx
      obtain ⟨_, rfl⟩ := List.getElem?_eq_some_iff.mp ha
      simp
    subst hx
    array_get_dec
    refine (r16 _ hp (m := if 6 < (((rs.foldl step []).map PyData.str).length : Int) then 6 else (((rs.foldl step []).map PyData.str).length : Int)) (by rw [List.length_map]; split <;> omega) (by rw [List.length_map]; split <;> omega)).mono ?_
    rintro _ ⟨d2, p3, rfl, g1, g2, hp3⟩
    obtain ⟨e, rfl⟩ : ∃ e : Nat, d2 = (e : Int) := ⟨d2.toNat, by omega⟩
    have he6 : e + 1 ≤ 6 ∧ e + 1 ≤ (rs.foldl step []).length := by
      rw [List.length_map] at g2
      split at g2 <;> omega
    array_get_dec
    rw [show (1 : Int) + (e : Int) = ((e + 1 : Nat) : Int) by omega, cut_to, ← List.map_take]
    obtain ⟨ys, y, ey⟩ : ∃ ys y, (rs.foldl step []).take (e + 1) = ys ++ [y] := by
      rcases List.eq_nil_or_concat ((rs.foldl step []).take (e + 1)) with h | ⟨ys, y, h⟩
      · have := congrArg List.length h
        rw [List.length_take, List.length_nil] at this
        omega
      · exact ⟨ys, y, by rw [h, List.concat_eq_append]⟩
    have hlast' : ((rs.foldl step []).take (e + 1)).getLast? = some y := by rw [ey]; simp
    rw [ey, List.map_append]
    have iy : idxD (.list (ys.map PyData.str ++ [y].map PyData.str)) (.int (-1)) = some (.str y) := by
      simp only [idxD]; exact Mi.atI_last
    refine ⟨_, iy, ?_⟩
    array_get_dec
    have ec : (lookD kvs (.str y)).getD (.int 0) = .int (M y : Nat) := by
      rw [tr.look]
      split
      · rename_i h; rw [h]; rfl
      · rfl
    rw [ec]
    refine ⟨.int ((M y + 1 : Nat) : Int), by simp only [binD]; rfl, ?_⟩
    array_get_dec
    refine ⟨_, iy, ?_⟩
    array_get_dec
    have hkl := tr.klen
    refine ⟨.owd (putD kvs (.str y) (.int ((M y + 1 : Nat) : Int))), by
      simp only [putS, Mi.keyOf]
      rw [if_pos (by show _ < 16777216; omega)], ?_⟩
    array_get_dec
    refine (r17 _ hp3 (xs := preN.map PyData.str) (by decide) (by decide)).mono ?_
    rintro _ ⟨_, p4, rfl, hpre0, hp4⟩
    obtain ⟨pre, hpre, rfl⟩ := List.mem_map.mp hpre0
    array_get_dec
    have hk12 : k < 12 := by omega
    have ht : ((0 : Int) + (k : Int)) = (k : Int) := by omega
    refine ⟨.str (Str.ofString (toString (k : Int))), by
      rw [ht]
      simp only [bltD]
      rw [if_pos (int_small (B := 100) (by decide) (by omega)).1], ?_⟩
    array_get_dec
    have hnl : (nameOf pre k).length ≤ 8 := by
      have := (names_ok pre hpre k (List.mem_range.mpr hk12)).1
      simp [nameB, plainB] at this
      exact this.1.1.2
    refine ⟨.str (nameOf pre k), by
      simp only [binD]
      rw [if_pos]
      · rfl
      · rw [nameOf, Str.length_append] at hnl
        show _ ≤ 16777216
        omega, ?_⟩
    array_get_dec
    refine ⟨_, iy, ?_⟩
    array_get_dec
    refine ⟨.int ((M y + 1 : Nat) : Int), by
      simp only [idxD, Mi.keyOf]
      rw [look_put, if_pos rfl], ?_⟩
    array_get_dec
    have hMy := tr.mM y
    refine ⟨.str (Str.ofString (toString ((M y + 1 : Nat) : Int))), by
      simp only [bltD]
      rw [if_pos (int_small (B := 100) (by decide) (by omega)).1], ?_⟩
    array_get_dec
    refine (r17 _ hp4 (xs := sufL.map PyData.str) (by decide) (by decide)).mono ?_
    rintro _ ⟨_, p5, rfl, hsuf0, hp5⟩
    obtain ⟨suf, hsuf, rfl⟩ := List.mem_map.mp hsuf0
    array_get_dec
    have hll : (labOf (M y + 1) suf).length ≤ 4 := by
      have := labs_ok suf hsuf (M y + 1) (List.mem_range.mpr (by omega))
      simp [plainB] at this
      exact this.1.2
    refine ⟨.str (labOf (M y + 1) suf), by
      simp only [binD]
      rw [if_pos]
      · rfl
      · rw [labOf, Str.length_append] at hll
        show _ ≤ 16777216
        omega, ?_⟩
    array_get_dec
    refine (r18 _ hp5).mono ?_
    rintro _ ⟨w2, p6, rfl, hw2, _, hp6⟩
    array_get_dec
    refine ⟨by rw [List.length_map]; show _ < 16777216; omega, ?_⟩
    array_get_dec
    have hyl : ys.length + 1 ≤ 6 := by
      have := congrArg List.length ey
      rw [List.length_take, List.length_append, List.length_singleton] at this
      omega
    refine ⟨by rw [List.length_append, List.length_map, List.length_map]; show _ < 16777216; simp; omega, ?_⟩
    array_get_dec
    refine ⟨p6, rs ++ [⟨nameOf pre k, e + 1, labOf (M y + 1) suf, w2⟩], _, upM M y, .val (.int ((0 : Int) + (k : Int))), .val (.int ((e + 1 : Nat) : Int)), .val (.str (nameOf pre k)), hp6, ?_, by simp; omega, tr.next (by omega) (by omega) he6.1 he6.2 hlast' hpre hsuf hw2 (by omega)⟩
    rw [List.foldl_append, List.map_append]
    show _ = [_, _, _, _, Sl.own ((((rs.foldl step []).take (e + 1)) ++ [nameOf pre k]).map .str), _, _, _]
    rw [ey, List.map_append, List.map_append]
    rfl
  · obtain ⟨p, rs, kvs, M, s2, s6, s7, hp, rfl, hrl, tr⟩ := hI
    array_get_dec
    exact ⟨rs, p, rfl, tr.good, by omega, by omega, hp⟩
end K10

set_option maxHeartbeats 4000000
/-! k10: one thing otherwise. -/
namespace Mi
open PySem L2
mutual
theorem okD_mono {B C : Nat} (h : B ≤ C) : ∀ (d : PyData), okD B d = true → okD C d = true
  | .none, _ => rfl
  | .bool _, _ => rfl
  | .int i, q => by simp only [okD, decide_eq_true_eq] at q ⊢; omega
  | .str x, q => q
  | .list xs, q => by simp only [okD] at q ⊢; exact okAll_mono h xs q
  | .tuple xs, q => by simp only [okD] at q ⊢; exact okAll_mono h xs q
  | .dict xs, q => by simp only [okD] at q ⊢; exact okKv_mono h xs q
theorem okAll_mono {B C : Nat} (h : B ≤ C) : ∀ (d : List PyData), okAll B d = true → okAll C d = true
  | [], _ => rfl
  | x :: xs, q => by
    rw [okAll, Bool.and_eq_true] at q ⊢
    exact ⟨okD_mono h x q.1, okAll_mono h xs q.2⟩
theorem okKv_mono {B C : Nat} (h : B ≤ C) : ∀ (d : List (PyData × PyData)), okKv B d = true → okKv C d = true
  | [], _ => rfl
  | (k, v) :: xs, q => by
    rw [okKv, Bool.and_eq_true, Bool.and_eq_true] at q ⊢
    exact ⟨⟨okD_mono h k q.1.1, okD_mono h v q.1.2⟩, okKv_mono h xs q.2⟩
end
theorem siz_len : ∀ (xs : List PyData), 2 * xs.length ≤ sizAll xs
  | [] => Nat.le_refl 0
  | x :: xs => by rw [sizAll, List.length_cons]; have := siz_len xs; omega
theorem siz_mem : ∀ {xs : List PyData} {x : PyData}, x ∈ xs → siz x + 2 ≤ sizAll xs
  | y :: xs, x, h => by
    rw [sizAll]
    rcases List.mem_cons.mp h with rfl | h
    · omega
    · have := siz_mem h; omega
/-- what a bent value may be -/
structure Fit (B n k : Nat) (d : PyData) : Prop where
  ok : okD B d = true
  sz : siz d ≤ n
  dp : d.depth ≤ k
theorem fit_tup {B k : Nat} {ds xs : List PyData} {n : Nat} (h : okAll B ds = true) (hm : ∀ x ∈ xs, x ∈ ds) (hd : PyData.depthAll ds + 1 ≤ k) (hs : sizAll xs + 3 ≤ n) : Fit (B + 1) n k (.tuple xs) := by
  constructor
  · show okAll (B + 1) xs = true
    exact okAll_mono (Nat.le_succ _) _ (okAll_mem.mpr fun x hx => okAll_mem.mp h x (hm x hx))
  · exact hs
  · show PyData.depthAll xs + 1 ≤ k
    have := (depthAll_le (n := PyData.depthAll ds) (xs := xs)).mpr fun x hx => depthAll_le.mp (Nat.le_refl _) x (hm x hx)
    omega
def Bent (B n k : Nat) (r : (PyData × Bool) × List (List PyData)) : Prop := ∃ x fr p', r = ((x, fr), [p']) ∧ Fit (B + 1) n k x ∧ Pot p'
theorem Picked.bent {xs : List PyData} {r : (PyData × Bool) × List (List PyData)} (h : Picked xs r) {B n k : Nat} (hf : ∀ x ∈ xs, Fit (B + 1) n k x) : Bent B n k r := by
  obtain ⟨x, p', rfl, hx, hp⟩ := h
  exact ⟨x, false, p', rfl, hf x hx, hp⟩
theorem fit_dec {B n k : Nat} {d : PyData} (h : (okD B d && decide (siz d ≤ n) && decide (d.depth ≤ k)) = true) : Fit B n k d := by
  simp only [Bool.and_eq_true, decide_eq_true_eq] at h
  exact ⟨h.1.1, h.1.2, h.2⟩
theorem Fit.mono {B C n m k l : Nat} {d : PyData} (h : Fit B n k d) (h1 : B ≤ C) (h2 : n ≤ m) (h3 : k ≤ l) : Fit C m l d := ⟨okD_mono h1 _ h.ok, Nat.le_trans h.sz h2, Nat.le_trans h.dp h3⟩
theorem fit_atom {B n : Nat} {d : PyData} (h : okD B d = true) (h2 : siz d ≤ n) (h3 : d.depth = 0) : Fit B n 0 d := ⟨h, h2, by omega⟩
def bentOther : List PyData := [.none, .int 0, .tuple [], .list [], .str "a", .tuple [.str "a", .int 0, .str "0", .str ""], .dict []]
theorem bentOther_fit : ∀ d ∈ bentOther, Fit 100 100 1 d := by
  have h : bentOther.all (fun d => okD 100 d && decide (siz d ≤ 100) && decide (d.depth ≤ 1)) = true := by decide +kernel
  exact fun d hd => fit_dec (List.all_eq_true.mp h d hd)
theorem cutS_from (x : Str) : (cutS x (some 1) none).length ≤ x.length ∧ (signsOk x = true → signsOk (cutS x (some 1) none) = true) := by
  have e : (cutS x (some 1) none).cps.toList = ((x.cps.toList.drop (HT.sIx x.length 0 (some 1))).take (HT.sIx x.length x.length none - HT.sIx x.length 0 (some 1))) := rfl
  constructor
  · show (cutS x (some 1) none).cps.size ≤ _
    rw [← Array.length_toList, e, List.length_take, List.length_drop, Array.length_toList]
    show _ ≤ x.cps.size
    omega
  · intro h
    unfold signsOk at h ⊢
    rw [e]
    exact List.all_eq_true.mpr fun c hc => List.all_eq_true.mp h c (List.mem_of_mem_drop (List.mem_of_mem_take hc))
theorem signsOk_append {x y : Str} : signsOk (x ++ y) = (signsOk x && signsOk y) := by
  unfold signsOk
  show ((x.cps ++ y.cps).toList.all _) = _
  rw [Array.toList_append, List.all_append]
end Mi
namespace K10
open PySem Mi L2
local macro_rules | `(tactic| array_get_dec) => `(tactic| (conv => whnf); repeat (first | refine ⟨_, rfl, ?_⟩ | refine ⟨rfl, ?_⟩ | refine ⟨Nat.le_of_ble_eq_true rfl, ?_⟩); (conv => whnf))
local macro_rules | `(tactic| array_mem_dec) => `(tactic| (first | refine wd ?_ ?_ | refine wdn ?_ ?_ | refine wb ?_ ?_))

theorem r25_atom (B : Nat) (hB : 10 ^ 20 ≤ B) (n : Nat) (v : PyData) (p : List PyData) (hp : Pot p) (hok : okD B v = true) (hs : siz v ≤ 1000000) (hv : ∀ ds, v ≠ .tuple ds) : Ok (run TT (n + 3) 25 [.list p, v]) (Bent B (2 * siz v + 100) (v.depth + 1)) := by
  have other : ∀ x ∈ bentOther, Fit (B + 1) (2 * siz v + 100) (v.depth + 1) x := fun x hx => (bentOther_fit x hx).mono (by omega) (by omega) (by omega)
  refine w25 ?_
  cases v with
  | tuple ds => exact absurd rfl (hv ds)
  | int i =>
    array_get_dec
    refine (r17 _ hp (xs := [.int (i + 1), .int (i - 1), .int (-1), .int 7, .bool true, .none, .str "1", .int (10 ^ (20 : Int).toNat), .int 0, .int 6]) (by simp) (by simp)).mono ?_
    rintro _ ⟨x, p', rfl, hx, hp'⟩
    array_get_dec
    have hi : i.natAbs ≤ B := by simpa [okD] using hok
    refine ⟨x, false, p', rfl, ?_, hp'⟩
    simp only [List.mem_cons, List.not_mem_nil, or_false] at hx
    rcases hx with rfl | rfl | rfl | rfl | rfl | rfl | rfl | rfl | rfl | rfl
    all_goals (refine (fit_atom (n := 100) (B := B + 1) ?_ (by simp only [siz]; first | omega | decide) rfl).mono (by omega) (by omega) (by omega))
    all_goals first | rfl | (simp only [okD, decide_eq_true_eq]; first | omega | exact Nat.le_trans hB (by omega)) | skip
  | str x =>
    have hx : 10 * x.length + 2 ≤ 1000000 := hs
    have hsx : signsOk x = true := hok
    obtain ⟨c1, c2⟩ := cutS_from x
    array_get_dec
    refine ⟨.str (x ++ "a"), by
      simp only [binD]
      rw [if_pos (by show x.length + 1 ≤ 16777216; omega)], ?_⟩
    array_get_dec
    refine (r17 _ hp ?_ ?_).mono ?_
    · simp
    · simp
    · rintro _ ⟨y, p', rfl, hy, hp'⟩
      array_get_dec
      refine ⟨y, false, p', rfl, ?_, hp'⟩
      simp only [List.mem_append, List.mem_cons, List.not_mem_nil, or_false] at hy
      have f1 : Fit (B + 1) (2 * siz (.str x) + 100) ((PyData.str x).depth + 1) (.str (x ++ "a")) := by
        refine ⟨?_, ?_, Nat.zero_le _⟩
        · show signsOk _ = true
          rw [signsOk_append, hsx]; decide
        · simp only [siz, Str.length_append]
          have : (("a" : Str)).length = 1 := by decide
          omega
      have f2 : Fit (B + 1) (2 * siz (.str x) + 100) ((PyData.str x).depth + 1) (.str (cutS x (some 1) none)) := by
        refine ⟨c2 hsx, ?_, Nat.zero_le _⟩
        simp only [siz]; omega
      have f3 : Fit (B + 1) (2 * siz (.str x) + 100) ((PyData.str x).depth + 1) (.list [.str x]) := by
        refine ⟨?_, ?_, ?_⟩
        · simp only [okD, okAll, Bool.and_true]; exact hsx
        · simp only [siz, sizAll]; omega
        · simp [PyData.depth, PyData.depthAll]
      rcases hy with (rfl | rfl | rfl | rfl | rfl | rfl | rfl | rfl | rfl | rfl | rfl | rfl | rfl | rfl | rfl | rfl) | rfl | rfl | rfl | rfl | rfl
      all_goals first | exact f1 | exact f2 | exact f3 | exact (fit_dec (B := 100) (n := 100) (k := 0) (by decide +kernel)).mono (by omega) (by omega) (by omega)
  | _ =>
    array_get_dec
    refine (r17 _ hp (xs := bentOther) (by simp [bentOther]) (by decide)).mono ?_
    rintro _ ⟨y, p', rfl, hy, hp'⟩
    array_get_dec
    exact ⟨y, false, p', rfl, other y hy, hp'⟩
theorem r25 (B : Nat) (hB : 10 ^ 20 ≤ B) : ∀ (k n : Nat) (v : PyData) (p : List PyData), Pot p → okD B v = true → siz v ≤ 1000000 → v.depth ≤ k → Ok (run TT (n + k + 3) 25 [.list p, v]) (Bent B (2 * siz v + 100) (v.depth + 1)) := by
  intro k
  induction k with
  | zero =>
    intro n v p hp hok hs hv
    refine r25_atom B hB n v p hp hok hs fun ds e => ?_
    subst e
    simp [PyData.depth] at hv
  | succ k ih =>
    intro n v p hp hok hs hv
    cases v with
    | tuple ds =>
      have other : ∀ x ∈ bentOther, Fit (B + 1) (2 * siz (.tuple ds) + 100) ((PyData.tuple ds).depth + 1) x := fun x hx => (bentOther_fit x hx).mono (by omega) (by omega) (by omega)
      have hsz : siz (.tuple ds) = sizAll ds + 3 := rfl
      have hdp : (PyData.tuple ds).depth = PyData.depthAll ds + 1 := rfl
      have hoa : okAll B ds = true := hok
      have hlen := siz_len ds
      refine w25 ?_
      have tail : ∀ p2, Pot p2 → Ok (run TT (n + (k + 1) + 2) 17 [.list p2, .list bentOther]) (Bent B (2 * siz (.tuple ds) + 100) ((PyData.tuple ds).depth + 1)) := fun p2 hp2 => (r17 _ hp2 (xs := bentOther) (by simp [bentOther]) (by decide)).mono fun r hr => hr.bent other
      array_get_dec
      array_mem_dec <;> intro h1 <;> array_get_dec
      · have h1 : (0 : Int) < ds.length := h1
        refine (r16 _ hp (m := 9) (by omega) (by omega)).mono ?_
        rintro _ ⟨d1, p1, rfl, _, _, hp1⟩
        array_get_dec
        array_mem_dec <;> intro h2 <;> array_get_dec
        · refine (r16 _ hp1 (m := ds.length) (by omega) (by omega)).mono ?_
          rintro _ ⟨d2, p2, rfl, g1, g2, hp2⟩
          obtain ⟨a, rfl⟩ : ∃ a : Nat, d2 = (a : Int) := ⟨d2.toNat, by omega⟩
          have ha : a < ds.length := by omega
          have htd := sizAll_take_drop ds a
          have hdc : ds.drop a = ds[a] :: ds.drop (a + 1) := by rw [List.getElem_cons_drop]
          have hsd : sizAll (ds.drop a) = siz ds[a] + 2 + sizAll (ds.drop (a + 1)) := by rw [hdc, sizAll]
          have e1 : (a : Int) + 1 = ((a + 1 : Nat) : Int) := by omega
          have e2 : (a : Int) + 2 = ((a + 2 : Nat) : Int) := by omega
          array_get_dec
          refine (r16 _ hp2 (m := 12) (by omega) (by omega)).mono ?_
          rintro _ ⟨w, p3, rfl, _, _, hp3⟩
          array_get_dec
          array_mem_dec <;> intro h3 <;> array_get_dec
          · rw [e1, cut_to, cut_from]
            refine ⟨.tuple (ds.take a ++ ds.drop (a + 1)), by
              simp only [binD]; rw [if_pos (by rw [List.length_take, List.length_drop]; show _ ≤ 16777216; omega)], ?_⟩
            array_get_dec
            refine ⟨_, _, p3, rfl, fit_tup hoa (fun x hx => (List.mem_append.mp hx).elim List.mem_of_mem_take List.mem_of_mem_drop) (by omega) (by rw [sizAll_append]; omega), hp3⟩
          · array_mem_dec <;> intro h4 <;> array_get_dec
            · rw [e1, cut_to, cut_from]
              refine ⟨.tuple (ds.take (a + 1) ++ ds.drop a), by
                simp only [binD]; rw [if_pos (by rw [List.length_take, List.length_drop]; show _ ≤ 16777216; omega)], ?_⟩
              array_get_dec
              have := sizAll_take_drop ds (a + 1)
              refine ⟨_, _, p3, rfl, fit_tup hoa (fun x hx => (List.mem_append.mp hx).elim List.mem_of_mem_take List.mem_of_mem_drop) (by omega) (by rw [sizAll_append]; omega), hp3⟩
            · array_mem_dec <;> intro h5 <;> array_get_dec
              · refine ⟨_, _, p3, rfl, ⟨?_, by simp only [siz]; omega, ?_⟩, hp3⟩
                · show okAll _ ds = true
                  exact okAll_mono (Nat.le_succ _) _ hoa
                · show PyData.depthAll ds + 1 ≤ _
                  omega
              · array_mem_dec <;> intro h6 <;> array_get_dec
                · rw [e2, cut_to, cut_mid, show a + 2 - a = 2 by omega]
                  refine ⟨.tuple (ds.take a ++ ((ds.drop a).take 2).reverse), by
                    simp only [binD]; rw [if_pos (by rw [List.length_reverse, List.length_take, List.length_take, List.length_drop]; show _ ≤ 16777216; omega)], ?_⟩
                  array_get_dec
                  rw [e2, cut_from]
                  refine ⟨.tuple (ds.take a ++ ((ds.drop a).take 2).reverse ++ ds.drop (a + 2)), by
                    simp only [binD]; rw [if_pos (by rw [List.length_append, List.length_reverse, List.length_take, List.length_take, List.length_drop, List.length_drop]; show _ ≤ 16777216; omega)], ?_⟩
                  array_get_dec
                  have h7 := sizAll_take_drop (ds.drop a) 2
                  rw [List.drop_drop] at h7
                  refine ⟨_, _, p3, rfl, fit_tup hoa (fun x hx => ?_) (by omega) (by rw [sizAll_append, sizAll_append, sizAll_reverse]; omega), hp3⟩
                  rcases List.mem_append.mp hx with hx | hx
                  · rcases List.mem_append.mp hx with hx | hx
                    · exact List.mem_of_mem_take hx
                    · exact List.mem_of_mem_drop (List.mem_of_mem_take (List.mem_reverse.mp hx))
                  · exact List.mem_of_mem_drop hx
                · refine ⟨ds[a], by simp only [idxD]; exact Mi.atI_nat (List.getElem?_eq_getElem ha), ?_⟩
                  have hma : ds[a] ∈ ds := List.getElem_mem ha
                  have hda : ds[a].depth ≤ PyData.depthAll ds := depthAll_le.mp (Nat.le_refl _) _ hma
                  have hsa := siz_mem hma
                  array_get_dec
                  refine (ih n ds[a] p3 hp3 (okAll_mem.mp hoa _ hma) (by omega) (by omega)).mono ?_
                  rintro _ ⟨x, fr, p4, rfl, hf, hp4⟩
                  array_get_dec
                  rw [cut_to]
                  refine ⟨.tuple (ds.take a ++ [x]), by
                    simp only [binD]; rw [if_pos (by rw [List.length_take]; show _ ≤ 16777216; simp; omega)], ?_⟩
                  array_get_dec
                  rw [e1, cut_from]
                  refine ⟨.tuple (ds.take a ++ [x] ++ ds.drop (a + 1)), by
                    simp only [binD]; rw [if_pos (by rw [List.length_append, List.length_take, List.length_drop]; show _ ≤ 16777216; simp; omega)], ?_⟩
                  array_get_dec
                  refine ⟨_, _, p4, rfl, ⟨?_, ?_, ?_⟩, hp4⟩
                  · show okAll (B + 1) _ = true
                    rw [okAll_append, okAll_append, Bool.and_eq_true, Bool.and_eq_true]
                    refine ⟨⟨okAll_mono (Nat.le_succ _) _ (okAll_mem.mpr fun y hy => okAll_mem.mp hoa y (List.mem_of_mem_take hy)), ?_⟩, okAll_mono (Nat.le_succ _) _ (okAll_mem.mpr fun y hy => okAll_mem.mp hoa y (List.mem_of_mem_drop hy))⟩
                    simp [okAll, hf.ok]
                  · show sizAll _ + 3 ≤ _
                    have := hf.sz
                    rw [sizAll_append, sizAll_append]
                    simp only [sizAll]
                    omega
                  · show PyData.depthAll _ + 1 ≤ _
                    have := hf.dp
                    have h8 : PyData.depthAll (ds.take a ++ [x] ++ ds.drop (a + 1)) ≤ PyData.depthAll ds + 1 := depthAll_le.mpr fun y hy => by
                      rcases List.mem_append.mp hy with hy | hy
                      · rcases List.mem_append.mp hy with hy | hy
                        · have := depthAll_le.mp (Nat.le_refl (PyData.depthAll ds)) y (List.mem_of_mem_take hy); omega
                        · rw [List.mem_singleton.mp hy]; omega
                      · have := depthAll_le.mp (Nat.le_refl (PyData.depthAll ds)) y (List.mem_of_mem_drop hy); omega
                    omega
        · refine (tail p1 hp1).mono ?_
          rintro _ ⟨x, fr, p', rfl, hf, hp'⟩
          array_get_dec
          exact ⟨x, fr, p', rfl, hf, hp'⟩
      · refine (tail p hp).mono ?_
        rintro _ ⟨x, fr, p', rfl, hf, hp'⟩
        array_get_dec
        exact ⟨x, fr, p', rfl, hf, hp'⟩
    | _ => exact r25_atom B hB (n + k + 1) _ p hp hok hs (fun ds e => by cases e)
end K10

set_option maxHeartbeats 4000000
/-! k10: the law. -/
namespace Mi
open PySem L2
theorem ftwFrom_lt {α : Type} [DecidableEq α] : ∀ (seen l : List α) (k j : Nat), ftwFrom seen l k = some j → j < k + l.length
  | _, [], _, _, h => by cases h
  | seen, x :: l, k, j, h => by
    rw [ftwFrom] at h
    rw [List.length_cons]
    by_cases hx : x ∈ seen
    · rw [if_pos hx] at h; cases h; omega
    · rw [if_neg hx] at h; have := ftwFrom_lt _ l _ j h; omega
theorem depFrom_lt : ∀ (prev : Option Nat) (l : List Rw) (k j : Nat), depFrom prev l k = some j → j < k + l.length
  | _, [], _, _, h => by cases h
  | prev, x :: l, k, j, h => by
    rw [depFrom] at h
    rw [List.length_cons]
    by_cases hx : badD prev x.d = true
    · rw [if_pos hx] at h; cases h; omega
    · rw [if_neg hx] at h; have := depFrom_lt _ l _ j h; omega
theorem rowFrom_lt : ∀ (l : List PyData) (k j : Nat), rowFrom l k = some j → j < k + l.length
  | [], _, _, h => by cases h
  | x :: l, k, j, h => by
    rw [rowFrom] at h
    rw [List.length_cons]
    by_cases hx : rowD x = true
    · rw [if_pos hx] at h; have := rowFrom_lt l _ j h; omega
    · rw [if_neg hx] at h; cases h; omega
def flawsAll : List PyData := [.none, .tuple [.str "form"]] ++ (["row", "name", "depth", "label"] : List Str).flatMap fun w => (List.range 200).map fun k => word w k
theorem flawV_mem (v : PyData) : flawV v ∈ flawsAll := by
  have hw : ∀ (w : Str) (k : Nat), w ∈ (["row", "name", "depth", "label"] : List Str) → k < 200 → word w k ∈ flawsAll := fun w k hw hk =>
    List.mem_append.mpr (.inr (List.mem_flatMap.mpr ⟨w, hw, List.mem_map.mpr ⟨k, List.mem_range.mpr hk, rfl⟩⟩))
  have form : PyData.tuple [.str "form"] ∈ flawsAll := by simp [flawsAll]
  cases v with
  | tuple ds =>
    show (if _ then _ else _) ∈ _
    split
    · rename_i h
      cases e : rowFrom ds 0 with
      | some k => exact hw _ k (by simp) (by have := rowFrom_lt _ _ _ e; omega)
      | none =>
        show flawR (ds.map dec) ∈ _
        unfold flawR
        cases e1 : ftw ((ds.map dec).map (·.n)) with
        | some k => exact hw _ k (by simp) (by have := ftwFrom_lt _ _ _ _ e1; rw [List.length_map, List.length_map] at this; omega)
        | none =>
          cases e2 : depFlaw (ds.map dec) with
          | some k => exact hw _ k (by simp) (by have := depFrom_lt _ _ _ _ e2; rw [List.length_map] at this; omega)
          | none =>
            cases e3 : ftw (labPairs (ds.map dec)) with
            | some k => exact hw _ k (by simp) (by have := ftwFrom_lt _ _ _ _ e3; rw [labPairs_len, List.length_map] at this; omega)
            | none => simp [flawsAll]
    · exact form
  | _ => exact form
theorem flaws_fit : ∀ d ∈ flawsAll, Fit 1000 1000 5 (.list [d, d]) := by
  have h : flawsAll.all (fun d => okD 1000 (.list [d, d]) && decide (siz (.list [d, d]) ≤ 1000) && decide ((PyData.list [d, d]).depth ≤ 5)) = true := by decide +kernel
  exact fun d hd => fit_dec (List.all_eq_true.mp h d hd)
theorem flaws_tup : ∀ d ∈ flawsAll, d = .none ∨ ∃ ds, d = .tuple ds := by
  intro d hd
  rcases List.mem_append.mp hd with hd | hd
  · simp only [List.mem_cons, List.not_mem_nil, or_false] at hd
    rcases hd with rfl | rfl
    · exact .inl rfl
    · exact .inr ⟨_, rfl⟩
  · obtain ⟨w, _, hd⟩ := List.mem_flatMap.mp hd
    obtain ⟨k, _, rfl⟩ := List.mem_map.mp hd
    exact .inr ⟨_, rfl⟩
theorem Fit.repr {B n k : Nat} {d : PyData} (h : Fit B n k d) (hB : B ≤ 10 ^ 30) (hn : n ≤ 16777216) (hk : k ≤ 60) : reprF d = some (.str d.shown) := repr_ok hB h.ok (Nat.le_trans h.sz hn) (Nat.le_trans h.dp hk)
end Mi
namespace K10
open PySem Mi L2
local macro_rules | `(tactic| array_get_dec) => `(tactic| (conv => whnf); repeat (first | refine ⟨_, rfl, ?_⟩ | refine ⟨rfl, ?_⟩ | refine ⟨Nat.le_of_ble_eq_true rfl, ?_⟩); (conv => whnf))
local macro_rules | `(tactic| array_mem_dec) => `(tactic| (first | refine wd ?_ ?_ | refine wdn ?_ ?_ | refine wb ?_ ?_))

theorem r27 (n : Nat) {v : PyData} {B s k : Nat} (hv : Fit B s k v) (hB : B ≤ 10 ^ 30) (hs : s ≤ 16777216) (hk : k ≤ 60) : run TT (n + 6) 27 [v] = some ((.bool true, false), []) := by
  have e1 := hv.repr hB hs hk
  have e2 := (flaws_fit _ (flawV_mem v)).repr (by decide) (by decide) (by decide)
  have e3 : ∀ b : Bool, ∃ s : Str, reprF (.list [.bool b, .bool b]) = some (.str s) := fun b => ⟨_, repr_ok (B := 0) (by decide) (by simp [okD, okAll]) (by simp [siz, sizAll]) (by simp [PyData.depth, PyData.depthAll])⟩
  have hn : ∀ x, cmpD .Is x .none = some (isNone x) := fun x => by cases x <;> rfl
  refine (w27 ?_).eq
  have main : ∀ d, (d = .none ∨ ∃ ds, d = .tuple ds) → reprF (.list [d, d]) = some (.str (PyData.list [d, d]).shown) → flawV v = d → wdef (run TT (n + 5)) (ioOf TT) [Pk.v] [.un, .un] [] f27.body [v] fun a => a = ((.bool true, false), []) := by
    intro d hd er ef
    have r24' := r24 (n + 1) v
    have r14' := r14 n v
    have r10' := r10 n v
    rw [ef] at r24' r14' r10'
    obtain ⟨sb, eb⟩ := e3 (isNone d)
    rcases hd with rfl | ⟨ds, rfl⟩
    all_goals
      array_get_dec
      repeat (first | (refine ok_of r24' ?_; array_get_dec) | (refine ok_of r14' ?_; array_get_dec) | (refine ok_of r10' ?_; array_get_dec) | (refine ⟨_, e1, ?_⟩; array_get_dec) | (refine ⟨_, er, ?_⟩; array_get_dec) | (refine ⟨_, eb, ?_⟩; array_get_dec) | (refine wf (by simp) ?_; array_get_dec))
      first | exact finb (by simp) | rfl
  exact main _ (flaws_tup _ (flawV_mem v)) e2 rfl
end K10

set_option maxHeartbeats 8000000
/-! k10: trees at their limits. -/
namespace Mi
open PySem L2
def fitB (d : PyData) : Bool := okD (10 ^ 25) d && decide (siz d ≤ 16777216) && decide (d.depth ≤ 60)
theorem fitB_fit {d : PyData} (h : fitB d = true) : Fit (10 ^ 25) 16777216 60 d := fit_dec h
def edgeRow (k : Nat) : PyData := .tuple [.str ("n" ++ Str.ofString (toString (k : Int))), .int 1, .str (Str.ofString (toString (k : Int))), .str ""]
def edgeRow2 (k : Nat) : PyData := .tuple [.str ("n" ++ Str.ofString (toString (k : Int))), .int k, .str "0", .str ""]
theorem ints_map (f : PyData → PyData) (n : Nat) : (Mi.intsFrom 0 n).map f = (List.range n).map fun k : Nat => f (.int ((0 : Int) + (k : Int))) := by
  unfold Mi.intsFrom; rw [List.map_map]; rfl
end Mi
namespace K10
open PySem Mi L2
local macro_rules | `(tactic| array_get_dec) => `(tactic| (conv => whnf); repeat (first | refine ⟨_, rfl, ?_⟩ | refine ⟨rfl, ?_⟩ | refine ⟨Nat.le_of_ble_eq_true rfl, ?_⟩); (conv => whnf))
local macro_rules | `(tactic| array_mem_dec) => `(tactic| (first | refine wd ?_ ?_ | refine wdn ?_ ?_ | refine wb ?_ ?_))

theorem r26 (n : Nat) (v : PyData) : Ok (run TT (n + 1) 26 [v]) fun r => ∃ l, r = ((.list l, true), []) ∧ l.length ≤ 1000 ∧ ∀ d ∈ l, fitB d = true := by
  refine w26 ?_
  array_get_dec
  have str_ok : ∀ k : Nat, k < 1000 → bltD .str1 [.int ((0 : Int) + (k : Int))] = some (.str (Str.ofString (toString (k : Int)))) := fun k hk => by
    rw [show ((0 : Int) + (k : Int)) = (k : Int) by omega]
    simp only [bltD]
    rw [if_pos (int_small (B := 1000) (by decide) (by omega)).1]
  have str_len : ∀ k : Nat, k < 1000 → (Str.ofString (toString (k : Int))).length ≤ 32 := fun k hk => (int_small (B := 1000) (by decide) (by omega)).2
  have add_ok : ∀ k : Nat, k < 1000 → binD .Add (.str "n") (.str (Str.ofString (toString (k : Int)))) = some (.str ("n" ++ Str.ofString (toString (k : Int)))) := fun k hk => by
    simp only [binD]
    have := str_len k hk
    rw [if_pos (by show 1 + _ ≤ 16777216; omega)]
  have app : ∀ (l : List PyData) (d : PyData), (∀ d ∈ l, fitB d = true) → fitB d = true → ∀ e ∈ l ++ [d], fitB e = true := fun l d hl hd e he => by
    rcases List.mem_append.mp he with he | he
    · exact hl e he
    · rw [List.mem_singleton.mp he]; exact hd
  -- many rows
  refine w_for (fun k env => ∃ l s2 s6, env = [.val v, .own l, s2, .un, .un, .un, s6] ∧ nOwn s6 = true ∧ l.length ≤ k ∧ ∀ d ∈ l, fitB d = true) ⟨[], _, _, rfl, rfl, Nat.le_refl 0, by simp⟩ (fun k x env hx hI => ?_) fun env hI => ?_
  · obtain ⟨l, s2, s6, rfl, h6, hl, hf⟩ := hI
    have hk : k < 2 := (List.getElem?_eq_some_iff.mp hx).1
    obtain ⟨m, rfl, hm⟩ : ∃ m : Nat, x = .int (m : Int) ∧ (m = 200 ∨ m = 201) := by
      match k, hx with
      | 0, hx => cases hx; exact ⟨200, rfl, .inl rfl⟩
      | 1, hx => cases hx; exact ⟨201, rfl, .inr rfl⟩
    array_get_dec
    refine ⟨⟨by omega, by omega⟩, ?_⟩
    refine ⟨notOwn1 rfl h6, ?_⟩
    refine ok_of (w_map (fun d => match d with | .int k => edgeRow k.toNat | _ => .none) rfl (by show (List.map _ _).length ≤ 16777216; rw [List.length_map, List.length_range]; omega) fun y hy => ?_) ?_
    · obtain ⟨k, hk, rfl⟩ := List.mem_map.mp hy
      have hk : k < 1000 := by
        have := List.mem_range.mp hk
        omega
      array_get_dec
      refine ⟨_, str_ok k hk, ?_⟩
      array_get_dec
      refine ⟨_, add_ok k hk, ?_⟩
      array_get_dec
      refine ⟨_, str_ok k hk, ?_⟩
      array_get_dec
      refine ⟨?_, rfl⟩
      show _ = edgeRow ((0 : Int) + (k : Int)).toNat
      rw [show ((0 : Int) + (k : Int)).toNat = k by omega]; rfl
    · have em : (Mi.intsFrom 0 ((m : Int) - 1).toNat).map (fun d => match d with | .int k => edgeRow k.toNat | _ => .none) = (List.range (m - 1)).map edgeRow := by
        rw [ints_map, show ((m : Int) - 1).toNat = m - 1 by omega]
        exact List.map_congr_left fun k _ => by
          show edgeRow ((0 : Int) + (k : Int)).toNat = _
          rw [show ((0 : Int) + (k : Int)).toNat = k by omega]
      rw [em]
      array_get_dec
      refine ⟨.tuple ([.tuple [.str "act", .int 0, .str "0", .str ""]] ++ (List.range (m - 1)).map edgeRow), by
        simp only [binD]
        rw [if_pos (by rw [List.length_map, List.length_range]; show 1 + _ ≤ 16777216; omega)], ?_⟩
      array_get_dec
      refine ⟨by show _ < 16777216; omega, ?_⟩
      array_get_dec
      refine ⟨_, .val (.int m), s6, rfl, h6, by simp; omega, app _ _ hf ?_⟩
      rcases hm with rfl | rfl <;> decide +kernel
  · obtain ⟨l, s2, s6, rfl, h6, hl, hf⟩ := hI
    have hl : l.length ≤ 2 := hl
    array_get_dec
    -- depths
    refine w_for (fun k env => ∃ l s2 s3 s6, env = [.val v, .own l, s2, s3, .un, .un, s6] ∧ nOwn s6 = true ∧ l.length ≤ 2 + k ∧ ∀ d ∈ l, fitB d = true) ⟨l, _, _, _, rfl, h6, by omega, hf⟩ (fun k x env hx hI => ?_) fun env hI => ?_
    · obtain ⟨l, s2, s3, s6, rfl, h6, hl, hf⟩ := hI
      have hk : k < 2 := (List.getElem?_eq_some_iff.mp hx).1
      obtain ⟨m, rfl, hm⟩ : ∃ m : Nat, x = .int (m : Int) ∧ (m = 6 ∨ m = 7) := by
        match k, hx with
        | 0, hx => cases hx; exact ⟨6, rfl, .inl rfl⟩
        | 1, hx => cases hx; exact ⟨7, rfl, .inr rfl⟩
      array_get_dec
      refine ⟨⟨by omega, by omega⟩, ?_⟩
      refine ⟨notOwn1 rfl h6, ?_⟩
      refine ok_of (w_map (fun d => match d with | .int k => edgeRow2 k.toNat | _ => .none) rfl (by show (List.map _ _).length ≤ 16777216; rw [List.length_map, List.length_range]; omega) fun y hy => ?_) ?_
      · obtain ⟨k, hk, rfl⟩ := List.mem_map.mp hy
        have hk : k < 1000 := by
          have := List.mem_range.mp hk
          omega
        array_get_dec
        refine ⟨_, str_ok k hk, ?_⟩
        array_get_dec
        refine ⟨_, add_ok k hk, ?_⟩
        array_get_dec
        refine ⟨?_, rfl⟩
        show _ = edgeRow2 ((0 : Int) + (k : Int)).toNat
        rw [show ((0 : Int) + (k : Int)).toNat = k by omega, show ((0 : Int) + (k : Int)) = (k : Int) by omega]; rfl
      · have em : (Mi.intsFrom 0 ((m : Int) + 1).toNat).map (fun d => match d with | .int k => edgeRow2 k.toNat | _ => .none) = (List.range (m + 1)).map edgeRow2 := by
          rw [ints_map, show ((m : Int) + 1).toNat = m + 1 by omega]
          exact List.map_congr_left fun k _ => by
            show edgeRow2 ((0 : Int) + (k : Int)).toNat = _
            rw [show ((0 : Int) + (k : Int)).toNat = k by omega]
        rw [em]
        array_get_dec
        refine ⟨by show _ < 16777216; omega, ?_⟩
        array_get_dec
        refine ⟨_, s2, .val (.int m), s6, rfl, h6, by simp; omega, app _ _ hf ?_⟩
        rcases hm with rfl | rfl <;> decide +kernel
    · obtain ⟨l, s2, s3, s6, rfl, h6, hl, hf⟩ := hI
      have hl : l.length ≤ 4 := hl
      array_get_dec
      -- words
      refine w_for (fun k env => ∃ l s2 s3 s6, env = [.val v, .own l, s2, s3, .un, .un, s6] ∧ l.length ≤ 4 + 2 * k ∧ ∀ d ∈ l, fitB d = true) ⟨l, _, _, _, rfl, by omega, hf⟩ (fun k x env hx hI => ?_) fun env hI => ?_
      · obtain ⟨l, s2, s3, s6, rfl, hl, hf⟩ := hI
        have hk : k < 2 := (List.getElem?_eq_some_iff.mp hx).1
        match k, hx with
        | 0, hx =>
          cases hx
          array_get_dec
          refine ⟨by show _ < 16777216; omega, ?_⟩
          array_get_dec
          refine ⟨by show _ < 16777216; simp; omega, ?_⟩
          array_get_dec
          exact ⟨_, .val (.int 120), s3, s6, rfl, by simp; omega, app _ _ (app _ _ hf (by decide +kernel)) (by decide +kernel)⟩
        | 1, hx =>
          cases hx
          array_get_dec
          refine ⟨by show _ < 16777216; omega, ?_⟩
          array_get_dec
          refine ⟨by show _ < 16777216; simp; omega, ?_⟩
          array_get_dec
          exact ⟨_, .val (.int 121), s3, s6, rfl, by simp; omega, app _ _ (app _ _ hf (by decide +kernel)) (by decide +kernel)⟩
      · obtain ⟨l, s2, s3, s6, rfl, hl, hf⟩ := hI
        have hl : l.length ≤ 8 := hl
        array_get_dec
        -- names
        refine w_for (fun k env => ∃ l s4, env = [.val v, .own l, s2, s3, s4, .un, s6] ∧ l.length ≤ 8 + k ∧ ∀ d ∈ l, fitB d = true) ⟨l, _, rfl, by omega, hf⟩ (fun k x env hx hI => ?_) fun env hI => ?_
        · obtain ⟨l, s4, rfl, hl, hf⟩ := hI
          have hk : k < 7 := (List.getElem?_eq_some_iff.mp hx).1
          have hxm := List.mem_of_getElem? hx
          obtain ⟨s, hs, rfl⟩ : ∃ s : Str, s ∈ (["abcdefgh", "abcdefghi", "a1234567", "1a", "z", "aB", ""] : List Str) ∧ x = .str s := by
            simp only [List.mem_cons, List.not_mem_nil, or_false] at hxm
            rcases hxm with rfl | rfl | rfl | rfl | rfl | rfl | rfl <;> exact ⟨_, by simp, rfl⟩
          array_get_dec
          refine ⟨by show _ < 16777216; omega, ?_⟩
          array_get_dec
          refine ⟨_, .val (.str s), rfl, by simp; omega, app _ _ hf ?_⟩
          have h : (["abcdefgh", "abcdefghi", "a1234567", "1a", "z", "aB", ""] : List Str).all (fun s => fitB (.tuple [.tuple [.str s, .int 0, .str "0", .str ""]])) = true := by decide +kernel
          exact List.all_eq_true.mp h s hs
        · obtain ⟨l, s4, rfl, hl, hf⟩ := hI
          have hl : l.length ≤ 15 := hl
          array_get_dec
          -- labels
          refine w_for (fun k env => ∃ l s5, env = [.val v, .own l, s2, s3, s4, s5, s6] ∧ l.length ≤ 15 + k ∧ ∀ d ∈ l, fitB d = true) ⟨l, _, rfl, by omega, hf⟩ (fun k x env hx hI => ?_) fun env hI => ?_
          · obtain ⟨l, s5, rfl, hl, hf⟩ := hI
            have hk : k < 7 := (List.getElem?_eq_some_iff.mp hx).1
            have hxm := List.mem_of_getElem? hx
            obtain ⟨s, hs, rfl⟩ : ∃ s : Str, s ∈ (["1234", "12345", "", "a", "0", "A", "1 "] : List Str) ∧ x = .str s := by
              simp only [List.mem_cons, List.not_mem_nil, or_false] at hxm
              rcases hxm with rfl | rfl | rfl | rfl | rfl | rfl | rfl <;> exact ⟨_, by simp, rfl⟩
            array_get_dec
            refine ⟨by show _ < 16777216; omega, ?_⟩
            array_get_dec
            refine ⟨_, .val (.str s), rfl, by simp; omega, app _ _ hf ?_⟩
            have h : (["1234", "12345", "", "a", "0", "A", "1 "] : List Str).all (fun s => fitB (.tuple [.tuple [.str "act", .int 0, .str s, .str ""], .tuple [.str "n", .int 1, .str s, .str ""]])) = true := by decide +kernel
            exact List.all_eq_true.mp h s hs
          · obtain ⟨l, s5, rfl, hl, hf⟩ := hI
            have hl : l.length ≤ 22 := hl
            array_get_dec
            refine ⟨by show _ < 16777216; omega, ?_⟩
            array_get_dec
            refine ⟨by show _ < 16777216; simp; omega, ?_⟩
            array_get_dec
            refine ⟨by show _ < 16777216; simp; omega, ?_⟩
            array_get_dec
            refine ⟨by simp; omega, app _ _ (app _ _ (app _ _ hf (by decide +kernel)) (by decide +kernel)) (by decide +kernel)⟩
end K10

set_option maxHeartbeats 8000000
/-! k10: the whole law. -/
namespace Mi
open PySem L2
theorem sgn_ok {x : Str} (h : x.cps.toList.all sgn = true) : signsOk x = true :=
  List.all_eq_true.mpr fun c hc => decide_eq_true (by have := sgn_lt (List.all_eq_true.mp h c hc); omega)
theorem join_ok {sep : Str} (hs : signsOk sep = true) : ∀ (ps : List Str), (∀ p ∈ ps, signsOk p = true) → signsOk (Str.join sep ps) = true
  | [], _ => by rfl
  | [p], h => h p (by simp)
  | p :: q :: ps, h => by
    show signsOk (p ++ sep ++ Str.join sep (q :: ps)) = true
    rw [signsOk_append, signsOk_append, h p (by simp), hs, join_ok hs (q :: ps) fun r hr => h r (List.mem_cons_of_mem _ hr)]
    rfl
theorem wordsB_ok {w : Str} (h : wordsB w = true) : signsOk w = true ∧ w.length ≤ 120 := by
  simp only [wordsB, Bool.and_eq_true, Bool.or_eq_true, decide_eq_true_eq] at h
  refine ⟨?_, h.1⟩
  rcases h.2 with h2 | h2
  · rw [K10.len0.mp h2]; decide
  · rw [← PySem.StrLaws.join_split w " "]
    refine join_ok (by decide) _ fun p hp => sgn_ok ?_
    have := List.all_eq_true.mp h2 p hp
    simp only [Bool.and_eq_true] at this
    exact this.2
theorem plainB_len {lo hi : Nat} {x : Str} (h : plainB lo hi x = true) : x.length ≤ hi := by
  simp only [plainB, Bool.and_eq_true, decide_eq_true_eq] at h
  exact h.1.2
theorem row_fit {r : Rw} (h : r.Ok) : Fit 100 1400 1 r.enc := by
  obtain ⟨h1, h2, h3, h4⟩ := h
  have n1 : r.n.length ≤ 8 := by
    have := h1
    simp only [nameB, Bool.and_eq_true] at this
    exact plainB_len this.1
  have l1 := plainB_len h3
  obtain ⟨w1, w2⟩ := wordsB_ok h4
  refine ⟨?_, ?_, ?_⟩
  · show okAll 100 _ = true
    simp only [okAll, okD, sgn_ok (nameB_sgn h1), sgn_ok (plainB_sgn h3), w1, Bool.and_true, Bool.true_and, decide_eq_true_eq]
    omega
  · show sizAll _ + 3 ≤ 1400
    simp only [sizAll, siz]
    omega
  · show PyData.depthAll _ + 1 ≤ 1
    simp [PyData.depthAll, PyData.depth]
theorem rows_fit {rs : List Rw} (h : ∀ r ∈ rs, r.Ok) : okAll 100 (rs.map Rw.enc) = true ∧ sizAll (rs.map Rw.enc) ≤ 1402 * rs.length ∧ PyData.depthAll (rs.map Rw.enc) ≤ 1 := by
  refine ⟨okAll_mem.mpr fun x hx => ?_, ?_, depthAll_le.mpr fun x hx => ?_⟩
  · obtain ⟨r, hr, rfl⟩ := List.mem_map.mp hx
    exact (row_fit (h r hr)).ok
  · induction rs with
    | nil => exact Nat.le_refl 0
    | cons r rs ih =>
      have h1 := (row_fit (h r List.mem_cons_self)).sz
      have h2 := ih fun q hq => h q (List.mem_cons_of_mem _ hq)
      rw [List.map_cons, sizAll, List.length_cons]
      omega
  · obtain ⟨r, hr, rfl⟩ := List.mem_map.mp hx
    exact (row_fit (h r hr)).dp
theorem fit_of {B m j : Nat} {d : PyData} (h : Fit B m j d) (h1 : B ≤ 10 ^ 25) (h2 : m ≤ 16777216) (h3 : j ≤ 60) : fitB d = true := by
  obtain ⟨a, b, c⟩ := h.mono h1 h2 h3
  simp only [fitB, a, b, c, decide_true, Bool.and_true]
end Mi
namespace K10
open PySem Mi L2
local macro_rules | `(tactic| array_get_dec) => `(tactic| (conv => whnf); repeat (first | refine ⟨_, rfl, ?_⟩ | refine ⟨rfl, ?_⟩ | refine ⟨Nat.le_of_ble_eq_true rfl, ?_⟩); (conv => whnf))
local macro_rules | `(tactic| array_mem_dec) => `(tactic| (first | refine wd ?_ ?_ | refine wdn ?_ ?_ | refine wb ?_ ?_))

theorem all27 {n : Nat} {vs : List PyData} {j : Nat} {env env' : En} (hf : ∀ d ∈ vs, fitB d = true) (hl : vs.length ≤ 1000) (hw : wipeE env [j] = env') (h : ∀ d, fitB d = true → wbd (.nm j) d env' fun e1 => we (run TT (n + 6)) (ioOf TT) (.call 27 (.cons (.var j) .nil) .nil []) e1 fun d e3 => d = .bool true ∧ wipeE e3 [j] = env') :
    compS (run TT (n + 6)) (ioOf TT) [j] (.nm j) .no (.call 27 (.cons (.var j) .nil) .nil []) vs env = some (.list (vs.map fun _ => .bool true), env) :=
  w_map (fun _ => .bool true) hw (by show _ ≤ 16777216; omega) fun y hy => h y (hf y hy)
theorem r28 (n : Nat) {p : List PyData} (hp : Pot p) : Ok (run TT (n + 9) 28 [.list p]) fun r => ∃ p', r = ((.bool true, false), [p']) := by
  refine w28 ?_
  array_get_dec
  refine (r19 _ hp).mono ?_
  rintro _ ⟨rs, p1, rfl, hg, hr1, hr2, hp1⟩
  have hflaw := hg.flaw hr1 (by omega)
  obtain ⟨o1, o2, o3⟩ := rows_fit hg.ok
  obtain ⟨r, rs', e⟩ : ∃ r rs', rs = r :: rs' := by
    cases rs with
    | nil => simp at hr1
    | cons r rs => exact ⟨r, rs, rfl⟩
  have hT : Fit 100 20000 2 (.tuple (rs.map Rw.enc)) := ⟨o1, by show _ + 3 ≤ _; omega, by show _ + 1 ≤ _; omega⟩
  generalize hT' : rs.map Rw.enc = T at *
  have hTl : T.length ≤ 13 := by rw [← hT', List.length_map]; exact hr2
  have h0 : T[0]? = some r.enc := by rw [← hT', e]; rfl
  array_get_dec
  refine ⟨r.enc, by simp only [idxD]; exact Mi.atI_nat (k := 0) h0, ?_⟩
  array_get_dec
  rw [show cutL T none (some 1) = T.take 1 from cut_to T 1]
  refine ⟨.tuple (T ++ T.take 1), by
    simp only [binD]; rw [if_pos (by rw [List.length_take]; show _ ≤ 16777216; omega)], ?_⟩
  array_get_dec
  rw [show cutL T (some 1) none = T.drop 1 from cut_from T 1]
  have hT0 : Fit (10 ^ 20) 20000 2 (.tuple T) := hT.mono (by decide) (Nat.le_refl _) (Nat.le_refl _)
  -- what is bent once
  have bent1 : ∀ p, Pot p → Ok (run TT (n + 8) 25 [.list p, .tuple T]) (Bent (10 ^ 20) (2 * siz (.tuple T) + 100) ((PyData.tuple T).depth + 1)) := fun p hp =>
    r25 (10 ^ 20) (Nat.le_refl _) 5 n _ p hp hT0.ok (Nat.le_trans hT0.sz (by decide)) (Nat.le_trans hT0.dp (by decide))
  have hsz := hT.sz
  have hdp := hT.dp
  refine ⟨⟨by decide, by decide⟩, ?_⟩
  refine ⟨rfl, ?_⟩
  have part : ∀ {xs : List PyData} {m : Nat}, (∀ x ∈ xs, x ∈ T) → sizAll xs + 3 ≤ m → m ≤ 16777216 → fitB (.tuple xs) = true := fun {xs m} h1 h2 h3 => fit_of (fit_tup (k := 60) o1 h1 (by omega) h2) (by decide) h3 (Nat.le_refl _)
  have hrow : fitB r.enc = true := fit_of (row_fit (hg.ok r (by rw [e]; simp))) (by decide) (by decide) (by decide)
  have htree : fitB (.tuple T) = true := fit_of hT (by decide) (by decide) (by decide)
  have hlist : fitB (.list T) = true := fit_of (B := 100) (m := 20000) (j := 2) ⟨hT.ok, hT.sz, hT.dp⟩ (by decide) (by decide) (by decide)
  have hone : fitB (.tuple [.tuple T]) = true := by
    refine fit_of (B := 100) (m := 30000) (j := 3) ⟨?_, ?_, ?_⟩ (by decide) (by decide) (by decide)
    · show okAll 100 _ = true
      simp only [okAll, hT.ok, Bool.and_true]
    · show sizAll _ + 3 ≤ _
      simp only [sizAll]
      omega
    · show PyData.depthAll _ + 1 ≤ 3
      simp only [PyData.depthAll]
      omega
  have hsT : sizAll T ≤ 20000 := by omega
  have hs1 := sizAll_take_drop T 1
  refine w_comp (fun acc en => ∃ p L s3, Pot p ∧ en = [.own p, .val (.tuple T), .own L, s3, .un] ∧ nOwn s3 = true ∧ (L = [.tuple T, .list T, .tuple [], .none, .int 0, .str "tree", .dict [], r.enc, .tuple [.tuple T], .tuple (T ++ T.take 1), .tuple T.reverse, .tuple (T.drop 1)]) ∧ ∀ d ∈ acc, fitB d = true) (by show _ ≤ 16777216; simp [Mi.intsFrom]) ⟨p1, _, _, hp1, rfl, rfl, rfl, by simp⟩ (fun acc x en hx hI => ?_) fun acc en hal hI => ?_
  · obtain ⟨p, L, s3, hp, rfl, hs, hL, hf⟩ := hI
    array_get_dec
    refine (bent1 p hp).mono ?_
    rintro _ ⟨y, fr, p2, rfl, hy, hp2⟩
    array_get_dec
    refine ⟨p2, L, .val x, hp2, rfl, rfl, hL, fun d hd => ?_⟩
    rcases List.mem_append.mp hd with hd | hd
    · exact hf d hd
    · rw [List.mem_singleton.mp hd]
      exact fit_of hy (by decide) (by omega) (by omega)
  · obtain ⟨p, L, s3, hp, rfl, hs, hL, hf⟩ := hI
    have hal : acc.length = 24 := hal
    have hLl : L.length = 12 := by rw [hL]; rfl
    have hfL : ∀ d ∈ L, fitB d = true := fun d hd => by
      rw [hL] at hd
      simp only [List.mem_cons, List.not_mem_nil, or_false] at hd
      rcases hd with rfl | rfl | rfl | rfl | rfl | rfl | rfl | rfl | rfl | rfl | rfl | rfl
      · exact htree
      · exact hlist
      · decide +kernel
      · decide +kernel
      · decide +kernel
      · decide +kernel
      · decide +kernel
      · exact hrow
      · exact hone
      · exact part (m := 50000) (fun x hx => (List.mem_append.mp hx).elim id List.mem_of_mem_take) (by rw [sizAll_append]; omega) (by omega)
      · exact part (m := 50000) (fun x hx => List.mem_reverse.mp hx) (by rw [sizAll_reverse]; omega) (by omega)
      · exact part (m := 50000) (fun x hx => List.mem_of_mem_drop hx) (by omega) (by omega)
    array_get_dec
    refine ⟨.list (L ++ acc), by
      simp only [binD]; rw [if_pos (by show _ ≤ 16777216; omega)], ?_⟩
    array_get_dec
    refine (bent1 p hp).mono ?_
    rintro _ ⟨y, fr, p2, rfl, hy, hp2⟩
    array_get_dec
    have hys := hy.sz
    have hyd := hy.dp
    refine (r25 (10 ^ 20 + 1) (by omega) 5 n y p2 hp2 hy.ok (by omega) (by omega)).mono ?_
    rintro _ ⟨z, fr2, p3, rfl, hz, hp3⟩
    array_get_dec
    refine ⟨by rw [List.length_append]; show _ < 16777216; omega, ?_⟩
    array_get_dec
    refine ok_of (r10 _ _) ?_
    rw [hflaw]
    array_get_dec
    have hall : ∀ d ∈ L ++ acc ++ [z], fitB d = true := fun d hd => by
      rcases List.mem_append.mp hd with hd | hd
      · rcases List.mem_append.mp hd with hd | hd
        · exact hfL d hd
        · exact hf d hd
      · rw [List.mem_singleton.mp hd]
        exact fit_of hz (by decide) (by omega) (by omega)
    refine ok_of (all27 hall (by simp; omega) rfl fun d hd => ?_) ?_
    · array_get_dec
      refine ok_of (r27 _ (fitB_fit hd) (by decide) (by decide) (by decide)) ?_
      array_get_dec
      exact rfl
    · array_get_dec
      refine ⟨_, blt_all (fun _ => true) _, ?_⟩
      array_get_dec
      have ea : ∀ l : List PyData, l.all (fun _ => true) = true := fun l => by simp
      rw [ea]
      exact ⟨_, rfl⟩
theorem r29 (n : Nat) (ns : List Int) : Ok (run TT (n + 10) 29 [.list (ns.map .int)]) fun r => ∃ fr, r = ((.bool true, fr), []) := by
  refine w29 ?_
  array_get_dec
  refine ⟨⟨by split <;> split <;> omega, by split <;> split <;> omega⟩, ?_⟩
  refine w_for (fun k env => ∃ s1, env = [.scr (ns.map .int), s1, .un]) ⟨_, rfl⟩ (fun k x env hx hI => ?_) fun env hI => ?_
  · obtain ⟨s1, rfl⟩ := hI
    obtain ⟨k, rfl⟩ : ∃ k : Nat, x = .int k := by
      have := List.mem_of_getElem? hx
      obtain ⟨k, _, rfl⟩ := List.mem_map.mp this
      exact ⟨k, by rw [show ((0 : Int) + (k : Int)) = (k : Int) by omega]⟩
    array_get_dec
    refine (r15 _ ns k).mono ?_
    rintro _ ⟨p, rfl, hp⟩
    array_get_dec
    refine (r28 n hp).mono ?_
    rintro _ ⟨p', rfl⟩
    array_get_dec
    exact ⟨_, rfl⟩
  · obtain ⟨s1, rfl⟩ := hI
    array_get_dec
    refine (r15 _ ns 3).mono ?_
    rintro _ ⟨p, rfl, hp⟩
    array_get_dec
    refine (r26 _ _).mono ?_
    rintro _ ⟨l, rfl, hl, hf⟩
    array_get_dec
    refine ok_of (all27 (n := n + 3) hf hl rfl fun d hd => ?_) ?_
    · array_get_dec
      refine ok_of (r27 _ (fitB_fit hd) (by decide) (by decide) (by decide)) ?_
      array_get_dec
      exact rfl
    · array_get_dec
      refine ⟨_, blt_all (fun _ => true) _, ?_⟩
      array_get_dec
      have ea : ∀ l : List PyData, l.all (fun _ => true) = true := fun l => by simp
      rw [ea]
      exact ⟨_, rfl⟩
theorem plain : ∀ ns : List Int, ns.length ≤ 63 → ∃ fr, run TT 20 29 [.list (ns.map .int)] = some ((.bool true, fr), []) := fun ns _ => by
  obtain ⟨r, e, fr, rfl⟩ := ok_iff.mp (r29 10 ns)
  exact ⟨fr, e⟩
end K10


open PySem PySem.W PyProof.Rows in
set_option maxRecDepth 100000 in
set_option maxHeartbeats 0 in
theorem PySem.Challenge.cw_actworks_k10_any_value_as_tree_holds : PySem.Challenge.rw_actworks_k10_any_value_as_tree.Holds := by
  w_on; o_law; k_head; (case hw => w_witness2)
  k_fill
  refine Mi.law_end (l := PySem.Challenge.rw_actworks_k10_any_value_as_tree) (n := 63) (k := 20) (i := 29) (G := K10.G) (T := K10.TT) (sts := K10.sts) rfl (by decide) rfl ⟨rfl, by decide, by decide⟩ (fun w h Y => PySem.W.kIn_of Y) rfl rfl ?D K10.plain
  case D =>
    intro w mg h KX GX base _ _
    refine' Mi.tab_of KX GX ⟨⟨_, _, Mi.def_mk ?a0 ?l0 ?c0 ?k0, K10.o0⟩, ⟨_, _, Mi.def_mk ?a1 ?l1 ?c1 ?k1, K10.o1⟩, ⟨_, _, Mi.def_mk ?a2 ?l2 ?c2 ?k2, K10.o2⟩, ⟨_, _, Mi.def_mk ?a3 ?l3 ?c3 ?k3, K10.o3⟩, ⟨_, _, Mi.def_mk ?a4 ?l4 ?c4 ?k4, K10.o4⟩, ⟨_, _, Mi.def_mk ?a5 ?l5 ?c5 ?k5, K10.o5⟩, ⟨_, _, Mi.def_mk ?a6 ?l6 ?c6 ?k6, K10.o6⟩, ⟨_, _, Mi.def_mk ?a7 ?l7 ?c7 ?k7, K10.o7⟩, ⟨_, _, Mi.def_mk ?a8 ?l8 ?c8 ?k8, K10.o8⟩, ⟨_, _, Mi.def_mk ?a9 ?l9 ?c9 ?k9, K10.o9⟩, ⟨_, _, Mi.def_mk ?a10 ?l10 ?c10 ?k10, K10.o10⟩, ⟨_, _, Mi.def_mk ?a11 ?l11 ?c11 ?k11, K10.o11⟩, ⟨_, _, Mi.def_mk ?a12 ?l12 ?c12 ?k12, K10.o12⟩, ⟨_, _, Mi.def_mk ?a13 ?l13 ?c13 ?k13, K10.o13⟩, ⟨_, _, Mi.def_mk ?a14 ?l14 ?c14 ?k14, K10.o14⟩, ⟨_, _, Mi.def_mk ?a15 ?l15 ?c15 ?k15, K10.o15⟩, ⟨_, _, Mi.def_mk ?a16 ?l16 ?c16 ?k16, K10.o16⟩, ⟨_, _, Mi.def_mk ?a17 ?l17 ?c17 ?k17, K10.o17⟩, ⟨_, _, Mi.def_mk ?a18 ?l18 ?c18 ?k18, K10.o18⟩, ⟨_, _, Mi.def_mk ?a19 ?l19 ?c19 ?k19, K10.o19⟩, ⟨_, _, Mi.def_mk ?a20 ?l20 ?c20 ?k20, K10.o20⟩, ⟨_, _, Mi.def_mk ?a21 ?l21 ?c21 ?k21, K10.o21⟩, ⟨_, _, Mi.def_mk ?a22 ?l22 ?c22 ?k22, K10.o22⟩, ⟨_, _, Mi.def_mk ?a23 ?l23 ?c23 ?k23, K10.o23⟩, ⟨_, _, Mi.def_mk ?a24 ?l24 ?c24 ?k24, K10.o24 K10.hand24⟩, ⟨_, _, Mi.def_mk ?a25 ?l25 ?c25 ?k25, K10.o25⟩, ⟨_, _, Mi.def_mk ?a26 ?l26 ?c26 ?k26, K10.o26⟩, ⟨_, _, Mi.def_mk ?a27 ?l27 ?c27 ?k27, K10.o27⟩, ⟨_, _, Mi.def_mk ?a28 ?l28 ?c28 ?k28, K10.o28⟩, ⟨_, _, Mi.def_mk ?a29 ?l29 ?c29 ?k29, K10.o29⟩, trivial⟩ ?B ?C
    (case a0 => k_is)
    (case l0 => k_is)
    (case c0 => k_is)
    (case k0 => k_is)
    (case a1 => k_is)
    (case l1 => k_is)
    (case c1 => k_is)
    (case k1 => k_is)
    (case a2 => k_is)
    (case l2 => k_is)
    (case c2 => k_is)
    (case k2 => k_is)
    (case a3 => k_is)
    (case l3 => k_is)
    (case c3 => k_is)
    (case k3 => k_is)
    (case a4 => k_is)
    (case l4 => k_is)
    (case c4 => k_is)
    (case k4 => k_is)
    (case a5 => k_is)
    (case l5 => k_is)
    (case c5 => k_is)
    (case k5 => k_is)
    (case a6 => k_is)
    (case l6 => k_is)
    (case c6 => k_is)
    (case k6 => k_is)
    (case a7 => k_is)
    (case l7 => k_is)
    (case c7 => k_is)
    (case k7 => k_is)
    (case a8 => k_is)
    (case l8 => k_is)
    (case c8 => k_is)
    (case k8 => k_is)
    (case a9 => k_is)
    (case l9 => k_is)
    (case c9 => k_is)
    (case k9 => k_is)
    (case a10 => k_is)
    (case l10 => k_is)
    (case c10 => k_is)
    (case k10 => k_is)
    (case a11 => k_is)
    (case l11 => k_is)
    (case c11 => k_is)
    (case k11 => k_is)
    (case a12 => k_is)
    (case l12 => k_is)
    (case c12 => k_is)
    (case k12 => k_is)
    (case a13 => k_is)
    (case l13 => k_is)
    (case c13 => k_is)
    (case k13 => k_is)
    (case a14 => k_is)
    (case l14 => k_is)
    (case c14 => k_is)
    (case k14 => k_is)
    (case a15 => k_is)
    (case l15 => k_is)
    (case c15 => k_is)
    (case k15 => k_is)
    (case a16 => k_is)
    (case l16 => k_is)
    (case c16 => k_is)
    (case k16 => k_is)
    (case a17 => k_is)
    (case l17 => k_is)
    (case c17 => k_is)
    (case k17 => k_is)
    (case a18 => k_is)
    (case l18 => k_is)
    (case c18 => k_is)
    (case k18 => k_is)
    (case a19 => k_is)
    (case l19 => k_is)
    (case c19 => k_is)
    (case k19 => k_is)
    (case a20 => k_is)
    (case l20 => k_is)
    (case c20 => k_is)
    (case k20 => k_is)
    (case a21 => k_is)
    (case l21 => k_is)
    (case c21 => k_is)
    (case k21 => k_is)
    (case a22 => k_is)
    (case l22 => k_is)
    (case c22 => k_is)
    (case k22 => k_is)
    (case a23 => k_is)
    (case l23 => k_is)
    (case c23 => k_is)
    (case k23 => k_is)
    (case a24 => k_is)
    (case l24 => k_is)
    (case c24 => k_is)
    (case k24 => k_is)
    (case a25 => k_is)
    (case l25 => k_is)
    (case c25 => k_is)
    (case k25 => k_is)
    (case a26 => k_is)
    (case l26 => k_is)
    (case c26 => k_is)
    (case k26 => k_is)
    (case a27 => k_is)
    (case l27 => k_is)
    (case c27 => k_is)
    (case k27 => k_is)
    (case a28 => k_is)
    (case l28 => k_is)
    (case c28 => k_is)
    (case k28 => k_is)
    (case a29 => k_is)
    (case l29 => k_is)
    (case c29 => k_is)
    (case k29 => k_is)
    case B =>
      refine ⟨?_, ?_, ?_, ?_, ?_, ?_, ?_, ?_, ?_, ?_, ?_, ?_, ?_, ?_, ?_, ?_, ?_, ?_, ?_, trivial⟩ <;> k_is
    case C =>
      refine' ⟨Mi.cst_str (by decide) ?q0, Mi.cst_str (by decide) ?q1, Mi.cst_int ?q2, Mi.cst_int ?q3, Mi.cst_int ?q4, Mi.cst_int ?q5, Mi.cst_int ?q6, trivial⟩
      (case q0 => k_is)
      (case q1 => k_is)
      (case q2 => k_is)
      (case q3 => k_is)
      (case q4 => k_is)
      (case q5 => k_is)
      (case q6 => k_is)
