import PyProof.Rows.All
import Wide.All
import OpenK.AllK
import Wide.FinOn
import HandS.ForMost
import HandS.Exc
import HandS.ExcOwn
import HandS.TryOnly
import HandS.WordsExc
import HandS.CallSlots
import HandS.TupAny
import HandS.Wide
import HandS.Deep
import HandS.IsInst
import HandS.SortInts
import HandS.More
import HandS.DictComp
import HandS.SetFor
import HandS.Strs
import HandS.Ends
import HandS.RaiseMore
import KE.KSortTupAny
import PySem.Challenge.RW_latemoves_k95_what_rules_touch
set_option Elab.async false
set_option linter.all false
set_option maxRecDepth 100000
set_option maxHeartbeats 4000000
/-! PM1: plain values and a store of objects; how they lie in the abstract heap. -/
namespace PM
open PySem PySem.Spec PyProof.Rows L2

/-- a plain value: tuples as data; con: a list that is only read (the script); loc: an object of the store -/
inductive D where
  | non | bl (b : Bool) | int (i : Int) | str (x : Str) | tup (xs : List D) | con (xs : List D) | loc (n : Nat)
/-- an object of the store: a list; a dict (keys ints and texts), the same while it is walked, a dict with tuples as keys; an instance of class number c -/
inductive O where
  | lst (xs : List D) | dct (kvs : List (Key × D)) | fdc (kvs : List (Key × D)) | dtt (kvs : List (List Key × D)) | ins (c : Nat) (fs : List (Str × D))
abbrev Sto := List O

/-- a result: a value and the store behind; an exception of class number c with its fields; none that is told -/
inductive R (α : Type) where
  | ok (a : α) (st : Sto) | exc (c : Nat) (fs : List (Str × D)) (st : Sto) | bad
def R.bind {α β : Type} : R α → (α → Sto → R β) → R β
  | .ok a st, f => f a st
  | .exc c fs st, _ => .exc c fs st
  | .bad, _ => .bad
@[simp] theorem R.bind_ok {α β : Type} (a : α) (st : Sto) (f : α → Sto → R β) : (R.ok a st).bind f = f a st := rfl
@[simp] theorem R.bind_exc {α β : Type} (c : Nat) (fs : List (Str × D)) (st : Sto) (f : α → Sto → R β) : (R.exc c fs st).bind f = .exc c fs st := rfl
@[simp] theorem R.bind_bad {α β : Type} (f : α → Sto → R β) : (R.bad : R α).bind f = .bad := rfl

abbrev Frag := PySem.W.Frag

/-- a list that is only read -/
def ConL (K : Frag) (H : Hp) (a : Addr) (xs : List V) : Prop :=
  (∃ o, H a = some (.frz o (.lst xs))) ∨
    ∃ (o : Obj) (its : Array Value) (n : Nat), K.lookup a = some o ∧ o.cls = .type "list" ∧ o.dict = none ∧ o.data = .seq its n ∧ its.size ≤ sizeLine ∧ Vals xs its.toList
theorem ConL.sq {K : Frag} {H : Hp} {a : Addr} {xs : List V} (h : ConL K H a xs) : SqL K H a xs := by
  rcases h with ⟨o, h⟩ | h
  · exact .inl (.inr ⟨o, h⟩)
  · exact .inr h

mutual
inductive RV (K : Frag) (α : Nat → Addr) (N : Nat) (H : Hp) : D → V → Prop
  | non : RV K α N H .non .non
  | bl (b : Bool) : RV K α N H (.bl b) (.bl b)
  | int (i : Int) : RV K α N H (.int i) (.int i)
  | str (x : Str) : RV K α N H (.str x) (.str x)
  | tup {a : Addr} {vs : List V} {xs : List D} : SqT K H a vs → RVs K α N H xs vs → RV K α N H (.tup xs) (.ref a)
  | con {a : Addr} {vs : List V} {xs : List D} : ConL K H a vs → RVs K α N H xs vs → RV K α N H (.con xs) (.ref a)
  | loc {n : Nat} : n < N → RV K α N H (.loc n) (.ref (α n))
inductive RVs (K : Frag) (α : Nat → Addr) (N : Nat) (H : Hp) : List D → List V → Prop
  | nil : RVs K α N H [] []
  | cons {d : D} {v : V} {xs : List D} {vs : List V} : RV K α N H d v → RVs K α N H xs vs → RVs K α N H (d :: xs) (v :: vs)
end

/-- pairs of keys and values -/
inductive RKs (K : Frag) (α : Nat → Addr) (N : Nat) (H : Hp) {κ : Type} : List (κ × D) → List (κ × V) → Prop
  | nil : RKs K α N H [] []
  | cons {k : κ} {d : D} {v : V} {xs : List (κ × D)} {vs : List (κ × V)} : RV K α N H d v → RKs K α N H xs vs → RKs K α N H ((k, d) :: xs) ((k, v) :: vs)

/-- an object of the store and what is tracked of it -/
inductive RO (K : Frag) (ca : Nat → Addr) (α : Nat → Addr) (N : Nat) (H : Hp) : O → HO → Prop
  | lst {xs : List D} {vs : List V} : RVs K α N H xs vs → RO K ca α N H (.lst xs) (.lst vs)
  | dct {xs : List (Key × D)} {vs : List (Key × V)} : RKs K α N H xs vs → RO K ca α N H (.dct xs) (.dK vs)
  | fdc {o : Obj} {xs : List (Key × D)} {vs : List (Key × V)} : RKs K α N H xs vs → RO K ca α N H (.fdc xs) (.frz o (.dK vs))
  | dtt {xs : List (List Key × D)} {vs : List (List Key × V)} : RKs K α N H xs vs → RO K ca α N H (.dtt xs) (.dT vs)
  | ins {c : Nat} {dx : Addr} {fs : List (Str × D)} {gs : List (Str × V)} : RKs K α N H fs gs → RO K ca α N H (.ins c fs) (.ins (ca c) dx gs)

/-- the store lies in the heap -/
structure Lk (K : Frag) (ca : Nat → Addr) (α : Nat → Addr) (st : Sto) (H : Hp) : Prop where
  at_ : ∀ n o, st[n]? = some o → ∃ ho, H (α n) = some ho ∧ RO K ca α st.length H o ho
  inj : ∀ i j, i < st.length → j < st.length → α i = α j → i = j

/-- what values lean on -/
structure Gr (K : Frag) (α : Nat → Addr) (N : Nat) (H : Hp) (α' : Nat → Addr) (N' : Nat) (H' : Hp) : Prop where
  le : N ≤ N'
  ag : ∀ n, n < N → α' n = α n
  tup : ∀ a vs, SqT K H a vs → SqT K H' a vs
  con : ∀ a vs, ConL K H a vs → ConL K H' a vs
/-- what is kept from one state to a later one -/
structure Xt (K : Frag) (α : Nat → Addr) (N : Nat) (H : Hp) (α' : Nat → Addr) (N' : Nat) (H' : Hp) : Prop extends Gr K α N H α' N' H' where
  new : ∀ n, N ≤ n → n < N' → H (α' n) = none
  keep : ∀ a o, H a = some o → (∀ n, n < N → α n ≠ a) → H' a = some o
  old : ∀ n, n < N → H (α n) ≠ none → H' (α n) ≠ none
  frz : ∀ a o u, H a = some (.frz o u) → H' a = some (.frz o u)

section
variable {K : Frag} {ca : Nat → Addr} {α α' α'' : Nat → Addr} {N N' N'' : Nat} {H H' H'' : Hp} {st st' : Sto}

theorem Xt.refl : Xt K α N H α N H := ⟨⟨Nat.le_refl _, fun _ _ => rfl, fun _ _ h => h, fun _ _ h => h⟩, fun n h h' => absurd h' (Nat.not_lt.mpr h), fun _ _ h _ => h, fun _ _ h => h, fun _ _ _ h => h⟩
theorem Xt.fresh (a : Xt K α N H α' N' H') {p : Addr} (h : H' p = none) : H p = none := by
  cases e : H p with
  | none => rfl
  | some o =>
    by_cases hi : ∃ m, m < N ∧ α m = p
    · obtain ⟨m, hm, em⟩ := hi
      exact absurd (em ▸ h) (a.old m hm (by rw [em, e]; exact fun z => by cases z))
    · rw [a.keep _ o e fun m hm em => hi ⟨m, hm, em⟩] at h
      cases h
theorem Xt.trans (a : Xt K α N H α' N' H') (b : Xt K α' N' H' α'' N'' H'') : Xt K α N H α'' N'' H'' where
  le := Nat.le_trans a.le b.le
  ag := fun n h => (b.ag n (Nat.lt_of_lt_of_le h a.le)).trans (a.ag n h)
  new := fun n h h' => by
    by_cases hn : n < N'
    · rw [b.ag n hn]; exact a.new n h hn
    · exact a.fresh (b.new n (Nat.le_of_not_lt hn) h')
  keep := fun c o h hn => b.keep c o (a.keep c o h hn) fun n h' e => by
    by_cases hN : n < N
    · rw [a.ag n hN] at e; exact hn n hN e
    · have := a.new n (Nat.le_of_not_lt hN) h'
      rw [e, h] at this; cases this
  tup := fun c vs h => b.tup c vs (a.tup c vs h)
  con := fun c vs h => b.con c vs (a.con c vs h)
  old := fun n h ho => by
    have h1 := a.old n h ho
    have e := a.ag n h
    rw [← e] at h1 ⊢
    exact b.old n (Nat.lt_of_lt_of_le h a.le) h1
  frz := fun c o u h => b.frz c o u (a.frz c o u h)

mutual
theorem RV.mono (x : Gr K α N H α' N' H') : ∀ {d : D} {v : V}, RV K α N H d v → RV K α' N' H' d v
  | _, _, .non => .non
  | _, _, .bl b => .bl b
  | _, _, .int i => .int i
  | _, _, .str s => .str s
  | _, _, .tup h r => .tup (x.tup _ _ h) (RVs.mono x r)
  | _, _, .con h r => .con (x.con _ _ h) (RVs.mono x r)
  | _, _, .loc h => by rw [← x.ag _ h]; exact .loc (Nat.lt_of_lt_of_le h x.le)
theorem RVs.mono (x : Gr K α N H α' N' H') : ∀ {d : List D} {v : List V}, RVs K α N H d v → RVs K α' N' H' d v
  | _, _, .nil => .nil
  | _, _, .cons h r => .cons (RV.mono x h) (RVs.mono x r)
end
theorem RKs.mono {κ : Type} (x : Gr K α N H α' N' H') : ∀ {d : List (κ × D)} {v : List (κ × V)}, RKs K α N H d v → RKs K α' N' H' d v
  | _, _, .nil => .nil
  | _, _, .cons h r => .cons (h.mono x) (RKs.mono x r)
theorem RO.mono (x : Gr K α N H α' N' H') {o : O} {ho : HO} (r : RO K ca α N H o ho) : RO K ca α' N' H' o ho := by
  cases r with
  | lst r => exact .lst (r.mono x)
  | dct r => exact .dct (r.mono x)
  | fdc r => exact .fdc (r.mono x)
  | dtt r => exact .dtt (r.mono x)
  | ins r => exact .ins (r.mono x)
theorem RVs.length : ∀ {d : List D} {v : List V}, RVs K α N H d v → d.length = v.length
  | _, _, .nil => rfl
  | _, _, .cons _ r => congrArg (· + 1) r.length
theorem RVs.append : ∀ {d e : List D} {v w : List V}, RVs K α N H d v → RVs K α N H e w → RVs K α N H (d ++ e) (v ++ w)
  | _, _, _, _, .nil, s => s
  | _, _, _, _, .cons r t, s => .cons r (RVs.append t s)
theorem RVs.take : ∀ {d : List D} {v : List V} (n : Nat), RVs K α N H d v → RVs K α N H (d.take n) (v.take n)
  | _, _, 0, _ => .nil
  | _, _, _ + 1, .nil => .nil
  | _, _, n + 1, .cons r t => .cons r (RVs.take n t)
theorem RVs.drop : ∀ {d : List D} {v : List V} (n : Nat), RVs K α N H d v → RVs K α N H (d.drop n) (v.drop n)
  | _, _, 0, r => r
  | _, _, _ + 1, .nil => .nil
  | _, _, n + 1, .cons _ t => RVs.drop n t
theorem RVs.set {x : D} {y : V} (r : RV K α N H x y) : ∀ {d : List D} {v : List V} (i : Nat), RVs K α N H d v → RVs K α N H (d.set i x) (v.set i y)
  | _, _, _, .nil => .nil
  | _, _, 0, .cons _ t => .cons r t
  | _, _, i + 1, .cons q t => .cons q (RVs.set r i t)
theorem RVs.get : ∀ {d : List D} {v : List V} {i : Nat} {x : D}, RVs K α N H d v → d[i]? = some x → ∃ y, v[i]? = some y ∧ RV K α N H x y
  | _, _, _, _, .nil, e => by simp at e
  | _, _, 0, _, .cons r _, e => by simp at e; subst e; exact ⟨_, rfl, r⟩
  | _, _, i + 1, x, .cons _ t, e => by
    obtain ⟨y, h1, h2⟩ := RVs.get (i := i) (x := x) t (by simpa using e)
    exact ⟨y, by simpa using h1, h2⟩
theorem RVs.getV : ∀ {d : List D} {v : List V} {i : Nat} {y : V}, RVs K α N H d v → v[i]? = some y → ∃ x, d[i]? = some x ∧ RV K α N H x y
  | _, _, _, _, .nil, e => by simp at e
  | _, _, 0, _, .cons r _, e => by simp at e; subst e; exact ⟨_, rfl, r⟩
  | _, _, i + 1, x, .cons _ t, e => by
    obtain ⟨y, h1, h2⟩ := RVs.getV (i := i) (y := x) t (by simpa using e)
    exact ⟨y, by simpa using h1, h2⟩
theorem RVs.reverse {d : List D} {v : List V} (h : RVs K α N H d v) : RVs K α N H d.reverse v.reverse := by
  induction h using RVs.rec (motive_1 := fun _ _ _ => True) with
  | nil => exact .nil
  | cons r _ _ ih => rw [List.reverse_cons, List.reverse_cons]; exact ih.append (.cons r .nil)
  | _ => trivial
theorem RVs.rep {d : List D} {v : List V} (h : RVs K α N H d v) : ∀ k : Nat, RVs K α N H (List.replicate k d).flatten (List.replicate k v).flatten
  | 0 => .nil
  | k + 1 => by rw [List.replicate_succ, List.replicate_succ, List.flatten_cons, List.flatten_cons]; exact h.append (RVs.rep h k)

theorem Lk.lt_of {n : Nat} {o : O} (h : st[n]? = some o) : n < st.length := (List.getElem?_eq_some_iff.mp h).1
theorem Lk.some_of {n : Nat} (h : n < st.length) : ∃ o, st[n]? = some o := ⟨st[n], by simp [h]⟩
theorem Lk.there (L : Lk K ca α st H) {n : Nat} (h : n < st.length) : ∃ ho, H (α n) = some ho := by
  obtain ⟨o, ho⟩ := Lk.some_of h
  obtain ⟨x, hx, _⟩ := L.at_ n o ho
  exact ⟨x, hx⟩
/-- the kinds of a store's objects -/
theorem RO.ntup {o : O} {ho : HO} (r : RO K ca α N H o ho) : ∀ xs, ho ≠ .tup xs := by intro xs e; subst e; cases r
theorem RO.nftup {o : O} {ho : HO} (r : RO K ca α N H o ho) : ∀ ob xs, ho ≠ .frz ob (.tup xs) := by intro ob xs e; subst e; cases r
theorem RO.nflst {o : O} {ho : HO} (r : RO K ca α N H o ho) : ∀ ob xs, ho ≠ .frz ob (.lst xs) := by intro ob xs e; subst e; cases r

/-- a change at one address which holds no tuple and no read-only list -/
theorem sqT_upd {p : Addr} {ho : HO} (h1 : ∀ xs, H p ≠ some (.tup xs)) (h2 : ∀ o xs, H p ≠ some (.frz o (.tup xs))) {a : Addr} {vs : List V} (h : SqT K H a vs) : SqT K (upd H p ho) a vs := by
  rcases h with (h | ⟨o, h⟩) | h
  · exact .inl (.inl (by rw [upd_ne (fun e => h1 _ (e ▸ h))]; exact h))
  · exact .inl (.inr ⟨o, by rw [upd_ne (fun e => h2 _ _ (e ▸ h))]; exact h⟩)
  · exact .inr h
theorem conL_upd {p : Addr} {ho : HO} (h1 : ∀ o xs, H p ≠ some (.frz o (.lst xs))) {a : Addr} {vs : List V} (h : ConL K H a vs) : ConL K (upd H p ho) a vs := by
  rcases h with ⟨o, h⟩ | h
  · exact .inl ⟨o, by rw [upd_ne (fun e => h1 _ _ (e ▸ h))]; exact h⟩
  · exact .inr h

/-- a new object that no name of the store holds (a tuple, a list in passing) -/
theorem xt_new {p : Addr} {ho : HO} (hp : H p = none) : Xt K α N H α N (upd H p ho) :=
  ⟨⟨Nat.le_refl _, fun _ _ => rfl,
    fun a vs h => sqT_upd (fun xs z => by rw [hp] at z; cases z) (fun o xs z => by rw [hp] at z; cases z) h,
    fun a vs h => conL_upd (fun o xs z => by rw [hp] at z; cases z) h⟩, fun n h h' => absurd h' (Nat.not_lt.mpr h), fun a o h _ => by rw [upd_ne (ne_of_none h hp)]; exact h,
    fun n _ ho => by
      by_cases e : α n = p
      · rw [e, upd_same]; exact fun z => by cases z
      · rw [upd_ne e]; exact ho,
    fun a o u h => by rw [upd_ne (ne_of_none h hp)]; exact h⟩
theorem Lk.temp {p : Addr} {ho : HO} (L : Lk K ca α st H) (hp : H p = none) : Lk K ca α st (upd H p ho) :=
  ⟨fun n o h => by
    obtain ⟨x, hx, r⟩ := L.at_ n o h
    exact ⟨x, by rw [upd_ne (ne_of_none hx hp)]; exact hx, r.mono (xt_new hp).toGr⟩, L.inj⟩
/-- an address for the next object -/
def ext (α : Nat → Addr) (N : Nat) (p : Addr) : Nat → Addr := fun n => if n = N then p else α n
theorem ext_at {p : Addr} : ext α N p N = p := if_pos rfl
theorem ext_lt {p : Addr} {n : Nat} (h : n < N) : ext α N p n = α n := if_neg (Nat.ne_of_lt h)
theorem gr_ext {p : Addr} : Gr K α N H (ext α N p) (N + 1) H := ⟨Nat.le_succ _, fun _ h => ext_lt h, fun _ _ h => h, fun _ _ h => h⟩
/-- an object in passing is taken into the store -/
theorem Lk.adopt {H0 : Hp} {α0 : Nat → Addr} {N0 : Nat} {p : Addr} {o : O} {ho : HO} (L : Lk K ca α st H) (hp : H p = some ho) (hn : ∀ n, n < st.length → α n ≠ p) (r : RO K ca α st.length H o ho) (x : Xt K α0 N0 H0 α st.length H) (hf : H0 p = none) :
    Lk K ca (ext α st.length p) (st ++ [o]) H ∧ Xt K α0 N0 H0 (ext α st.length p) (st ++ [o]).length H := by
  have el : (st ++ [o]).length = st.length + 1 := by simp
  rw [el]
  refine ⟨⟨fun n o' h => ?_, fun i j hi hj e => ?_⟩, ⟨⟨Nat.le_succ_of_le x.le, fun n h => (ext_lt (Nat.lt_of_lt_of_le h x.le)).trans (x.ag n h), x.tup, x.con⟩, fun n h h' => ?_, x.keep, x.old, x.frz⟩⟩
  · by_cases hl : n < st.length
    · rw [List.getElem?_append_left hl] at h
      obtain ⟨x', hx, r'⟩ := L.at_ n o' h
      rw [ext_lt hl, el]
      exact ⟨x', hx, r'.mono gr_ext⟩
    · have hlt := Lk.lt_of h
      have hN : n = st.length := by rw [el] at hlt; omega
      subst hN
      rw [List.getElem?_append_right (Nat.le_refl _), Nat.sub_self] at h
      have h : o = o' := by simpa using h
      subst h
      rw [ext_at, el]
      exact ⟨ho, hp, r.mono gr_ext⟩
  · rw [el] at hi hj
    by_cases hI : i < st.length
    · by_cases hJ : j < st.length
      · rw [ext_lt hI, ext_lt hJ] at e
        exact L.inj i j hI hJ e
      · have : j = st.length := by omega
        subst this
        rw [ext_lt hI, ext_at] at e
        exact absurd e (hn i hI)
    · have : i = st.length := by omega
      subst this
      by_cases hJ : j < st.length
      · rw [ext_lt hJ, ext_at] at e
        exact absurd e.symm (hn j hJ)
      · omega
  · by_cases hl : n < st.length
    · rw [ext_lt hl]; exact x.new n h hl
    · have : n = st.length := by omega
      subst this
      rw [ext_at]; exact hf
/-- a new object, at once in the store -/
theorem Lk.alloc {p : Addr} {o : O} {ho : HO} (L : Lk K ca α st H) (hp : H p = none) (r : RO K ca α st.length H o ho) :
    Lk K ca (ext α st.length p) (st ++ [o]) (upd H p ho) ∧ Xt K α st.length H (ext α st.length p) (st ++ [o]).length (upd H p ho) :=
  (L.temp hp).adopt upd_same (fun n hn e => by
    obtain ⟨x, hx⟩ := L.there hn
    rw [e, hp] at hx; cases hx) (r.mono (xt_new hp).toGr) (xt_new hp) hp
/-- an object of the store is written -/
theorem Lk.write {n : Nat} {o o' : O} {ho ho' : HO} (L : Lk K ca α st H) (h : st[n]? = some o) (hx : H (α n) = some ho) (hm : ∀ xs, ho ≠ .tup xs) (nf : ∀ ob u, ho ≠ .frz ob u) (r : RO K ca α st.length H o' ho') :
    Lk K ca α (st.set n o') (upd H (α n) ho') ∧ Xt K α st.length H α (st.set n o').length (upd H (α n) ho') := by
  have hn := Lk.lt_of h
  have g : Gr K α st.length H α st.length (upd H (α n) ho') := ⟨Nat.le_refl _, fun _ _ => rfl, fun a vs z => sqT_upd (fun xs q => by rw [hx] at q; exact hm xs (Option.some.inj q)) (fun ob xs q => by rw [hx] at q; exact nf ob _ (Option.some.inj q)) z,
    fun a vs z => conL_upd (fun ob xs q => by rw [hx] at q; exact nf ob _ (Option.some.inj q)) z⟩
  rw [List.length_set]
  refine ⟨⟨fun m o2 h2 => ?_, fun i j hi hj e => L.inj i j (by simpa using hi) (by simpa using hj) e⟩, ⟨g, fun m h1 h2 => absurd h2 (Nat.not_lt.mpr h1), fun a o2 h2 hne => by rw [upd_ne (fun e => hne n hn e.symm)]; exact h2, fun m hm' h2 => ?_, fun a ob u z => by rw [upd_ne (fun e => by rw [e, hx] at z; exact nf ob u (Option.some.inj z))]; exact z⟩⟩
  · rw [List.length_set]
    by_cases e : m = n
    · subst e
      rw [List.getElem?_set_self hn] at h2
      cases h2
      exact ⟨ho', upd_same, r.mono g⟩
    · rw [List.getElem?_set_ne (Ne.symm e)] at h2
      obtain ⟨x, hx2, r2⟩ := L.at_ m o2 h2
      exact ⟨x, by rw [upd_ne (fun q => e (L.inj m n (Lk.lt_of h2) hn q))]; exact hx2, r2.mono g⟩
  · by_cases e : α m = α n
    · rw [e, upd_same]; exact fun z => by cases z
    · rw [upd_ne e]; exact h2
end

/-! ### a def's names -/
abbrev Env := List (Option D)
inductive RE (K : Frag) (α : Nat → Addr) (N : Nat) (H : Hp) : Env → L2.St → Prop
  | nil : RE K α N H [] []
  | skip {v : Option V} {ρ : Env} {σ : L2.St} : RE K α N H ρ σ → RE K α N H (none :: ρ) (v :: σ)
  | has {d : D} {v : V} {ρ : Env} {σ : L2.St} : RV K α N H d v → RE K α N H ρ σ → RE K α N H (some d :: ρ) (some v :: σ)
section
variable {K : Frag} {ca : Nat → Addr} {α α' α'' : Nat → Addr} {N N' N'' : Nat} {H H' H'' : Hp} {st st' : Sto}
theorem RE.mono (x : Gr K α N H α' N' H') : ∀ {ρ : Env} {σ : L2.St}, RE K α N H ρ σ → RE K α' N' H' ρ σ
  | _, _, .nil => .nil
  | _, _, .skip r => .skip (RE.mono x r)
  | _, _, .has h r => .has (h.mono x) (RE.mono x r)
theorem RE.get : ∀ {ρ : Env} {σ : L2.St} {i : Nat} {d : D}, RE K α N H ρ σ → ρ[i]? = some (some d) → ∃ v, σ[i]? = some (some v) ∧ RV K α N H d v
  | _, _, _, _, .nil, e => by simp at e
  | _, _, 0, _, .skip _, e => by simp at e
  | _, _, 0, _, .has h _, e => by simp at e; subst e; exact ⟨_, rfl, h⟩
  | _, _, i + 1, d, .skip r, e => by
    obtain ⟨y, h1, h2⟩ := RE.get (i := i) (d := d) r (by simpa using e)
    exact ⟨y, by simpa using h1, h2⟩
  | _, _, i + 1, d, .has _ r, e => by
    obtain ⟨y, h1, h2⟩ := RE.get (i := i) (d := d) r (by simpa using e)
    exact ⟨y, by simpa using h1, h2⟩
theorem RE.set {d : D} {v : V} (h : RV K α N H d v) : ∀ {ρ : Env} {σ : L2.St} (i : Nat), RE K α N H ρ σ → RE K α N H (ρ.set i (some d)) (σ.set i (some v))
  | _, _, _, .nil => .nil
  | _, _, 0, .skip r => .has h r
  | _, _, 0, .has _ r => .has h r
  | _, _, i + 1, .skip r => .skip (RE.set h i r)
  | _, _, i + 1, .has q r => .has q (RE.set h i r)
theorem RE.forget {v : Option V} : ∀ {ρ : Env} {σ : L2.St} (i : Nat), RE K α N H ρ σ → RE K α N H (ρ.set i none) (σ.set i v)
  | _, _, _, .nil => .nil
  | _, _, 0, .skip r => .skip r
  | _, _, 0, .has _ r => .skip r
  | _, _, i + 1, .skip r => .skip (RE.forget i r)
  | _, _, i + 1, .has q r => .has q (RE.forget i r)
theorem RE.nones : ∀ (k : Nat), RE K α N H (List.replicate k none) (List.replicate k none)
  | 0 => .nil
  | k + 1 => .skip (RE.nones k)
theorem RE.start {ds : List D} {vs : List V} (r : RVs K α N H ds vs) (k : Nat) : RE K α N H (ds.map some ++ List.replicate k none) (vs.map some ++ List.replicate k none) := by
  have go : ∀ {ds : List D} {vs : List V}, RVs K α N H ds vs → RE K α N H (ds.map some ++ List.replicate k none) (vs.map some ++ List.replicate k none)
  := by
    intro ds
    induction ds with
    | nil => intro vs r; cases r; exact RE.nones k
    | cons d ds ih => intro vs r; cases r with | cons h r => exact .has h (ih r)
  exact go r
end

/-! ### what is wanted of a result -/
/-- a result's value b and what lies in the heap for it; the first heap: that ahead -/
abbrev Rel (β γ : Type) := Hp → (Nat → Addr) → Nat → Hp → β → γ → Prop
def relV (K : Frag) : Rel D V := fun _ α N H d v => RV K α N H d v
def relVs (K : Frag) : Rel (List D) (List V) := fun _ α N H d v => RVs K α N H d v
def relB : Rel Bool Bool := fun _ _ _ _ b c => b = c
/-- a new list that no name holds -/
def relL (K : Frag) : Rel (List D) V := fun H0 α N H xs v => ∃ p vs, v = .ref p ∧ H0 p = none ∧ H p = some (.lst vs) ∧ RVs K α N H xs vs ∧ ∀ n, n < N → α n ≠ p
/-- the fields of an exception -/
def XD (K : Frag) (α : Nat → Addr) (N : Nat) (H : Hp) (fs : List (Str × D)) (dd : Option Addr) : Prop :=
  (fs = [] ∧ dd = none) ∨ ∃ d gs, dd = some d ∧ H d = some (.xd gs) ∧ RKs K α N H fs gs

def Post (K : Frag) (ca : Nat → Addr) {β γ : Type} (rel : Rel β γ) (α : Nat → Addr) (N : Nat) (H : Hp) (W : XK) (Q : γ → Hp → Prop) : R β → Prop
  | .ok b st' => ∀ α' H' g, Xt K α N H α' st'.length H' → Lk K ca α' st' H' → rel H α' st'.length H' b g → Q g H'
  | .exc c fs st' => ∀ α' H' dd, Xt K α N H α' st'.length H' → Lk K ca α' st' H' → XD K α' st'.length H' fs dd → W (.ref (ca c)) dd H'
  | .bad => False

/-- a result kind that may be told of an earlier heap too -/
def RelOk {β γ : Type} (rel : Rel β γ) (K : Frag) : Prop := ∀ (α : Nat → Addr) (N : Nat) (H : Hp) (α1 : Nat → Addr) (N1 : Nat) (H1 : Hp) (α2 : Nat → Addr) (N2 : Nat) (H2 : Hp) (b : β) (g : γ),
  Xt K α N H α1 N1 H1 → Xt K α1 N1 H1 α2 N2 H2 → rel H1 α2 N2 H2 b g → rel H α2 N2 H2 b g
theorem relV_ok {K : Frag} : RelOk (relV K) K := fun _ _ _ _ _ _ _ _ _ _ _ _ _ h => h
theorem relVs_ok {K : Frag} : RelOk (relVs K) K := fun _ _ _ _ _ _ _ _ _ _ _ _ _ h => h
theorem relB_ok {K : Frag} : RelOk relB K := fun _ _ _ _ _ _ _ _ _ _ _ _ _ h => h
theorem relL_ok {K : Frag} : RelOk (relL K) K := fun _ _ _ _ _ _ _ _ _ _ _ x _ ⟨p, vs, e, h1, h2⟩ => ⟨p, vs, e, x.fresh h1, h2⟩

section
variable {K : Frag} {ca : Nat → Addr} {α α' α'' : Nat → Addr} {N N' N'' : Nat} {H H' H'' : Hp} {st st' : Sto} {β γ β' γ' : Type} {rel : Rel β γ} {rel' : Rel β' γ'} {W W' : XK} {Q Q' : γ → Hp → Prop} {r : R β}
/-- the state ahead goes on -/
theorem Post.later (ok : RelOk rel K) (x : Xt K α N H α' N' H') (h : Post K ca rel α N H W Q r) : Post K ca rel α' N' H' W Q r := by
  cases r with
  | ok b st' => exact fun a2 H2 g x2 L2 r2 => h a2 H2 g (x.trans x2) L2 (ok _ _ _ _ _ _ _ _ _ _ _ x x2 r2)
  | exc c fs st' => exact fun a2 H2 dd x2 L2 r2 => h a2 H2 dd (x.trans x2) L2 r2
  | bad => exact h
theorem Post.imp (h : Post K ca rel α N H W Q r) (hQ : ∀ g H', Q g H' → Q' g H') : Post K ca rel α N H W Q' r := by
  cases r with
  | ok b st' => exact fun a2 H2 g x2 L2 r2 => hQ _ _ (h a2 H2 g x2 L2 r2)
  | exc c fs st' => exact h
  | bad => exact h
end

/-- the state: the store lies in the heap, the names' values are those -/
structure At (K : Frag) (ca : Nat → Addr) (α : Nat → Addr) (st : Sto) (H : Hp) (ρ : Env) (σ : L2.St) : Prop where
  lk : Lk K ca α st H
  re : RE K α st.length H ρ σ
theorem At.later {K : Frag} {ca : Nat → Addr} {α α' : Nat → Addr} {st st' : Sto} {H H' : Hp} {ρ : Env} {σ : L2.St} (a : At K ca α st H ρ σ) (x : Xt K α st.length H α' st'.length H') (L : Lk K ca α' st' H') : At K ca α' st' H' ρ σ := ⟨L, a.re.mono x.toGr⟩

/-- the reading of a piece of code whose mirror is e -/
def tG (K : Frag) (ca : Nat → Addr) {β γ : Type} (rel : Rel β γ) (W : WX) (e : Env → Sto → R β) : L2.St → Hp → (γ → Hp → Prop) → Prop := fun σ H Q =>
  ∃ α st ρ, At K ca α st H ρ σ ∧ Post K ca rel α st.length H (fun c d H' => W c d σ H') Q (e ρ st)

section
variable {K : Frag} {ca : Nat → Addr} {β γ β' γ' : Type} {rel : Rel β γ} {rel' : Rel β' γ'} {W : WX} {σ : L2.St} {H : Hp} {e : Env → Sto → R β} {f : Env → β → Sto → R β'} {Q : γ' → Hp → Prop}
/-- one after another -/
theorem tG_bind (ok' : RelOk rel' K) (h : tG K ca rel' W (fun ρ st => (e ρ st).bind (f ρ)) σ H Q) :
    tG K ca rel W e σ H fun g H1 => ∃ α st ρ α0 N0 H0 b, At K ca α st H1 ρ σ ∧ Xt K α0 N0 H0 α st.length H1 ∧ rel H0 α st.length H1 b g ∧ Post K ca rel' α0 N0 H0 (fun c d H' => W c d σ H') Q (f ρ b st) := by
  obtain ⟨α, st, ρ, a, p⟩ := h
  refine ⟨α, st, ρ, a, ?_⟩
  have p : Post K ca rel' α st.length H (fun c d H' => W c d σ H') Q ((e ρ st).bind (f ρ)) := p
  revert p
  cases e ρ st with
  | ok b st1 => exact fun p α1 H1 g x L r => ⟨α1, st1, ρ, α, st.length, H, b, a.later x L, x, r, p⟩
  | exc c fs st1 => exact fun p => p
  | bad => exact fun p => p
end
end PM

set_option Elab.async false
set_option linter.all false
set_option maxRecDepth 100000
set_option maxHeartbeats 4000000
/-! PM2: expressions. -/
namespace PM
open PySem PySem.Spec PyProof.Rows L2

abbrev E := Env → Sto → R D
abbrev EL := Env → Sto → R (List D)
abbrev ET := Env → Sto → R Bool
def QE (X : Cx) (ca : Nat → Addr) (W : WX) (x : Expr) (e : E) : Prop := PE X x (tG X.K ca (relV X.K) W e)
def QL (X : Cx) (ca : Nat → Addr) (W : WX) (x : Expr) (e : EL) : Prop := PE X x (tG X.K ca (relL X.K) W e)
def QA (X : Cx) (ca : Nat → Addr) (W : WX) (xs : List Expr) (e : EL) : Prop := PA X xs (tG X.K ca (relVs X.K) W e)
def QT (X : Cx) (ca : Nat → Addr) (W : WX) (x : Expr) (e : ET) : Prop := PT X x (tG X.K ca relB W e)
def QW (X : Cx) (ca : Nat → Addr) (W : WX) (x : Expr) (e : ET) : Prop := PW X x (tG X.K ca relB W e)

theorem peW {X : Cx} {x : Expr} {t t' : TE} (p : PE X x t) (h : ∀ σ H Q, t' σ H Q → t σ H Q) : PE X x t' := ⟨fun pins s σ H Q I q => p.run pins s σ H Q I (h σ H Q q)⟩
theorem ptW {X : Cx} {x : Expr} {t t' : TT} (p : PT X x t) (h : ∀ σ H Q, t' σ H Q → t σ H Q) : PT X x t' := ⟨fun pins s σ H Q I q => p.run pins s σ H Q I (h σ H Q q)⟩
theorem pwW {X : Cx} {x : Expr} {t t' : TT} (p : PW X x t) (h : ∀ σ H Q, t' σ H Q → t σ H Q) : PW X x t' := ⟨fun wh pins s σ H Q I q => p.run wh pins s σ H Q I (h σ H Q q)⟩
theorem paW {X : Cx} {x : List Expr} {t t' : TA} (p : PA X x t) (h : ∀ σ H Q, t' σ H Q → t σ H Q) : PA X x t' := ⟨fun pos pins s σ H Q I q => p.run pos pins s σ H Q I (h σ H Q q)⟩

section
variable {X : Cx} {ca : Nat → Addr} {W : WX} {a b c : Expr} {ea eb ec : E} {pos : Pos}

/-! ### names, constants -/
def cVar (i : Nat) : E := fun ρ st => match ρ[i]? with
  | some (some d) => .ok d st
  | _ => .bad
theorem qe_var (i : Nat) {x : Str} {pos : Pos} (hN : X.N[i]? = some x := by rfl) (hv : Vis X.env.scope x := by first | exact Or.inl rfl | exact Or.inr (Or.inl rfl) | exact Or.inr (Or.inr rfl)) (hd : (x == ("__debug__" : Str)) = false := by decide)
    (hcd : (x == ("__classdict__" : Str)) = false := by decide) : QE X ca W (.Name x pos) (cVar i) := by
  refine peW (pe_var hN hv hd hcd) fun σ H Q h => ?_
  obtain ⟨α, st, ρ, a, p⟩ := h
  unfold cVar at p
  split at p
  · rename_i d e
    obtain ⟨v, h1, h2⟩ := a.re.get e
    exact ⟨v, h1, p α H v .refl a.lk h2⟩
  · exact p.elim
def cC (d : D) : E := fun _ st => .ok d st
theorem qe_int {i j pos} : QE X ca W (.Constant (.int i) j pos) (cC (.int i)) := peW pe_int fun σ H Q ⟨α, st, ρ, a, p⟩ => p α H _ .refl a.lk (.int i)
theorem qe_bl {b j pos} : QE X ca W (.Constant (.bool b) j pos) (cC (.bl b)) := peW pe_bl fun σ H Q ⟨α, st, ρ, a, p⟩ => p α H _ .refl a.lk (.bl b)
theorem qe_non {j pos} : QE X ca W (.Constant .none j pos) (cC .non) := peW pe_non fun σ H Q ⟨α, st, ρ, a, p⟩ => p α H _ .refl a.lk .non
theorem qe_str {x j pos} : QE X ca W (.Constant (.str x) j pos) (cC (.str x)) := peW pe_str fun σ H Q ⟨α, st, ρ, a, p⟩ => p α H _ .refl a.lk (.str x)
/-- a name of the module: a constant that the top made -/
theorem qe_glob {x : Str} {d : D} {v : V} {u : Value} {pos : Pos} (hg : Gl X x) (hm : X.mg x = some u) (r : RelV v u) (hd : ∀ α N H, RV X.K α N H d v) (hdb : (x == ("__debug__" : Str)) = false := by decide) : QE X ca W (.Name x pos) (cC d) :=
  peW (pe_glob hg hm r hdb) fun σ H Q ⟨α, st, ρ, a, p⟩ => p α H _ .refl a.lk (hd _ _ _)

/-! ### operators -/
def cOp2 (f : D → D → Sto → R D) (a b : E) : E := fun ρ st => (a ρ st).bind fun x st => (b ρ st).bind fun y st => f x y st
def rD2 (K : Frag) (ca : Nat → Addr) (f : D → D → Sto → R D) : R2 := fun x y H Q => ∃ α st α0 N0 H0 dx dy W, Lk K ca α st H ∧ Xt K α0 N0 H0 α st.length H ∧ RV K α st.length H dx x ∧ RV K α st.length H dy y ∧ Post K ca (relV K) α0 N0 H0 W Q (f dx dy st)
theorem tG_op2 {K : Frag} {f : D → D → Sto → R D} {σ : L2.St} {H : Hp} {Q : VK} (h : tG K ca (relV K) W (cOp2 f ea eb) σ H Q) :
    tOp (rD2 K ca f) (tG K ca (relV K) W ea) (tG K ca (relV K) W eb) σ H Q := by
  obtain ⟨α, st, ρ, a, p⟩ := h
  refine ⟨α, st, ρ, a, ?_⟩
  unfold cOp2 at p
  revert p
  cases ea ρ st with
  | exc c fs st1 => exact fun p => p
  | bad => exact fun p => p
  | ok x st1 =>
    intro p α1 H1 v1 x1 L1 r1
    have a1 := a.later x1 L1
    refine ⟨α1, st1, ρ, a1, ?_⟩
    have p : Post K ca (relV K) α st.length H (fun c d H' => W c d σ H') Q ((eb ρ st1).bind fun y st => f x y st) := p
    revert p
    cases eb ρ st1 with
    | exc c fs st2 => exact fun p α2 H2 dd x2 L2 => p α2 H2 dd (x1.trans x2) L2
    | bad => exact fun p => p
    | ok y st2 =>
      intro p α2 H2 v2 x2 L2 r2
      exact ⟨α2, st2, α, st.length, H, x, y, _, L2, x1.trans x2, RV.mono x2.toGr r1, r2, p⟩
theorem qe_op2 {op : Operator} {f : D → D → Sto → R D} (ho : OpR X (binaryOp op) (rD2 X.K ca f)) (ha : QE X ca W a ea) (hb : QE X ca W b eb) : QE X ca W (.BinOp a op b pos) (cOp2 f ea eb) :=
  peW (pe_op ho ha hb) fun σ H Q h => tG_op2 h
theorem qe_cmp {op : CmpOp} {f : D → D → Sto → R D} (ho : OpR X (compareOp op) (rD2 X.K ca f)) (ha : QE X ca W a ea) (hb : QE X ca W b eb) (hm : behindInMarks op b = false) : QE X ca W (.Compare a [op] [b] pos) (cOp2 f ea eb) :=
  peW (pe_cmpR ho ha hb hm) fun σ H Q h => tG_op2 h
/-- an operator's answer as a test -/
def asB : R D → R Bool
  | .ok (.bl b) st => .ok b st
  | .exc c fs st => .exc c fs st
  | _ => .bad
def cTst (e : E) : ET := fun ρ st => asB (e ρ st)
theorem tG_tst {K : Frag} {e : E} {σ : L2.St} {H : Hp} {Q : Bool → Hp → Prop} (h : tG K ca relB W (cTst e) σ H Q) : tTest (tG K ca (relV K) W e) σ H Q := by
  obtain ⟨α, st, ρ, a, p⟩ := h
  refine ⟨α, st, ρ, a, ?_⟩
  unfold cTst at p
  revert p
  cases e ρ st with
  | exc c fs st1 => exact fun p => p
  | bad => exact fun p => p
  | ok d st1 =>
    cases d with
    | bl b =>
      intro p α1 H1 v1 x1 L1 r1
      cases r1
      exact ⟨b, rfl, p α1 H1 b x1 L1 rfl⟩
    | _ => exact fun p => False.elim p
theorem qt_cmp {op : CmpOp} {f : D → D → Sto → R D} (ho : OpR X (compareOp op) (rD2 X.K ca f)) (ha : QE X ca W a ea) (hb : QE X ca W b eb) (hm : behindInMarks op b = false) : QT X ca W (.Compare a [op] [b] pos) (cTst (cOp2 f ea eb)) :=
  ptW (pt_cmpR ho ha hb hm) fun σ H Q h => by
    have h2 := tG_tst h
    exact tG_op2 h2
/-- a op1 b op2 c -/
def cChain (f g : D → D → Sto → R D) (a b c : E) : E := fun ρ st => (a ρ st).bind fun x st => (b ρ st).bind fun y st => (asB (f x y st)).bind fun k st =>
  match k with
  | true => (c ρ st).bind fun z st => g y z st
  | false => .ok (.bl false) st
/-- an operator that leaves the store as it is and answers with a bool -/
def BoolOp (f : D → D → Sto → R D) : Prop := ∀ x y st, (∃ k, f x y st = .ok (.bl k) st) ∨ f x y st = .bad
theorem tG_chain {K : Frag} {f g : D → D → Sto → R D} {σ : L2.St} {H : Hp} {Q : VK} (hf : BoolOp f) (h : tG K ca (relV K) W (cChain f g ea eb ec) σ H Q) :
    tChain (rD2 K ca f) (rD2 K ca g) (tG K ca (relV K) W ea) (tG K ca (relV K) W eb) (tG K ca (relV K) W ec) σ H Q := by
  obtain ⟨α, st, ρ, a, p⟩ := h
  refine ⟨α, st, ρ, a, ?_⟩
  unfold cChain at p
  revert p
  cases ea ρ st with
  | exc c fs st1 => exact fun p => p
  | bad => exact fun p => p
  | ok x st1 =>
    intro p α1 H1 v1 x1 L1 r1
    have a1 := a.later x1 L1
    refine ⟨α1, st1, ρ, a1, ?_⟩
    simp only [R.bind_ok] at p
    revert p
    cases eb ρ st1 with
    | exc c fs st2 => exact fun p α2 H2 dd x2 L2 => p α2 H2 dd (x1.trans x2) L2
    | bad => exact fun p => p
    | ok y st2 =>
      intro p α2 H2 v2 x2 L2 r2
      simp only [R.bind_ok] at p
      refine ⟨α2, st2, α2, st2.length, H2, x, y, fun _ _ _ => False, L2, .refl, RV.mono x2.toGr r1, r2, ?_⟩
      rcases hf x y st2 with ⟨k, e⟩ | e
      · rw [e] at p ⊢
        have a2 := a1.later x2 L2
        intro α3 H3 v3 x3 L3 r3
        cases r3
        refine ⟨k, rfl, ?_⟩
        cases k with
        | false => exact p α3 H3 _ ((x1.trans x2).trans x3) L3 (.bl false)
        | true =>
          rw [if_pos rfl]
          refine ⟨α3, st2, ρ, a2.later x3 L3, ?_⟩
          have p : Post K ca (relV K) α st.length H (fun c d H' => W c d σ H') Q ((ec ρ st2).bind fun z st => g y z st) := p
          revert p
          cases ec ρ st2 with
          | exc c fs st4 => exact fun p α4 H4 dd x4 L4 => p α4 H4 dd (((x1.trans x2).trans x3).trans x4) L4
          | bad => exact fun p => p
          | ok z st4 =>
            intro p α4 H4 v4 x4 L4 r4
            exact ⟨α4, st4, α, st.length, H, y, z, _, L4, ((x1.trans x2).trans x3).trans x4, RV.mono (x3.trans x4).toGr r2, r4, p⟩
      · rw [e] at p
        exact p.elim
theorem qe_chain {op op' : CmpOp} {f g : D → D → Sto → R D} (ho : OpR X (compareOp op) (rD2 X.K ca f)) (ho' : OpR X (compareOp op') (rD2 X.K ca g)) (hf : BoolOp f) (ha : QE X ca W a ea) (hb : QE X ca W b eb) (hc : QE X ca W c ec)
    (hm : lastMarks [op, op'] [b, c] = false := by with_unfolding_all rfl) : QE X ca W (.Compare a [op, op'] [b, c] pos) (cChain f g ea eb ec) :=
  peW (pe_chain ho ho' ha hb hc hm) fun σ H Q h => tG_chain hf h
theorem qt_chain {op op' : CmpOp} {f g : D → D → Sto → R D} (ho : OpR X (compareOp op) (rD2 X.K ca f)) (ho' : OpR X (compareOp op') (rD2 X.K ca g)) (hf : BoolOp f) (ha : QE X ca W a ea) (hb : QE X ca W b eb) (hc : QE X ca W c ec)
    (hm : lastMarks [op, op'] [b, c] = false := by with_unfolding_all rfl) : QT X ca W (.Compare a [op, op'] [b, c] pos) (cTst (cChain f g ea eb ec)) :=
  ptW (pt_chain ho ho' ha hb hc hm) fun σ H Q h => tG_chain hf (tG_tst h)

/-! ### one operand -/
def cOp1 (f : D → Sto → R D) (a : E) : E := fun ρ st => (a ρ st).bind fun x st => f x st
def rD1 (K : Frag) (ca : Nat → Addr) (f : D → Sto → R D) : V → Hp → VK → Prop := fun x H Q => ∃ α st α0 N0 H0 dx W, Lk K ca α st H ∧ Xt K α0 N0 H0 α st.length H ∧ RV K α st.length H dx x ∧ Post K ca (relV K) α0 N0 H0 W Q (f dx st)
theorem tG_op1 {K : Frag} {f : D → Sto → R D} {σ : L2.St} {H : Hp} {Q : VK} (h : tG K ca (relV K) W (cOp1 f ea) σ H Q) :
    tG K ca (relV K) W ea σ H fun x H1 => rD1 K ca f x H1 Q := by
  obtain ⟨α, st, ρ, a, p⟩ := h
  refine ⟨α, st, ρ, a, ?_⟩
  unfold cOp1 at p
  revert p
  cases ea ρ st with
  | exc c fs st1 => exact fun p => p
  | bad => exact fun p => p
  | ok x st1 =>
    intro p α1 H1 v1 x1 L1 r1
    exact ⟨α1, st1, α, st.length, H, x, _, L1, x1, r1, p⟩
theorem qe_un {op : UnaryOp} {f : D → Sto → R D} (ho : UnR X (unaryOp op) (rD1 X.K ca f)) (ha : QE X ca W a ea) : QE X ca W (.UnaryOp op a pos) (cOp1 f ea) :=
  peW (pe_un ho ha) fun σ H Q h => tG_op1 h

/-! ### the arithmetic of ints, texts, tuples, lists -/
def addD : D → D → Sto → R D
  | .int i, .int j, st => .ok (.int (i + j)) st
  | .str i, .str j, st => if i.length + j.length ≤ sizeLine then .ok (.str (i ++ j)) st else .bad
  | .tup xs, .tup ys, st => if xs.length + ys.length ≤ sizeLine then .ok (.tup (xs ++ ys)) st else .bad
  | .loc m, .loc n, st => match st[m]?, st[n]? with
    | some (.lst xs), some (.lst ys) => if xs.length + ys.length ≤ sizeLine then .ok (.loc st.length) (st ++ [.lst (xs ++ ys)]) else .bad
    | _, _ => .bad
  | _, _, _ => .bad
theorem lk_lst {K : Frag} {α : Nat → Addr} {st : Sto} {H : Hp} {n : Nat} {xs : List D} (L : Lk K ca α st H) (h : st[n]? = some (.lst xs)) : ∃ vs, H (α n) = some (.lst vs) ∧ RVs K α st.length H xs vs := by
  obtain ⟨ho, h1, h2⟩ := L.at_ n _ h
  cases h2 with
  | lst r => exact ⟨_, h1, r⟩
/-- the value of a new tuple -/
theorem fin_tup {K : Frag} {α α0 : Nat → Addr} {st : Sto} {N0 : Nat} {H H0 : Hp} {W : XK} {Q : VK} {xs : List D} {vs : List V} {p : Addr} (q : Post K ca (relV K) α0 N0 H0 W Q (.ok (.tup xs) st)) (xt : Xt K α0 N0 H0 α st.length H) (L : Lk K ca α st H)
    (r : RVs K α st.length H xs vs) (hp : H p = none) : Q (.ref p) (upd H p (.tup vs)) :=
  q α _ _ (xt.trans (xt_new hp)) (L.temp hp) (.tup (.inl (.inl upd_same)) (r.mono (xt_new hp).toGr))
/-- the value of a new list, taken into the store -/
theorem fin_lst {K : Frag} {α α0 : Nat → Addr} {st : Sto} {N0 : Nat} {H H0 : Hp} {W : XK} {Q : VK} {xs : List D} {vs : List V} {p : Addr} (q : Post K ca (relV K) α0 N0 H0 W Q (.ok (.loc st.length) (st ++ [.lst xs]))) (xt : Xt K α0 N0 H0 α st.length H) (L : Lk K ca α st H)
    (r : RVs K α st.length H xs vs) (hp : H p = none) : Q (.ref p) (upd H p (.lst vs)) := by
  obtain ⟨L2, x2⟩ := L.alloc hp (.lst r)
  refine q _ _ _ (xt.trans x2) L2 ?_
  have e : V.ref p = V.ref (ext α st.length p st.length) := by rw [ext_at]
  rw [e]
  exact .loc (by simp)
theorem d_add : OpR X (binaryOp .Add) (rD2 X.K ca addD) := by
  intro pins s σ H x y v u Q I rx ry ⟨α, st, α0, N0, H0, dx, dy, W, L, xt, r1, r2, p⟩
  cases r1 <;> cases r2 <;> try exact False.elim p
  · exact op_add pins s σ H _ _ v u Q I rx ry ⟨_, _, rfl, rfl, p α H _ xt L (.int _)⟩
  · simp only [addD] at p
    split at p
    · rename_i h
      exact op_add_str pins s σ H _ _ v u Q I rx ry ⟨_, _, rfl, rfl, h, p α H _ xt L (.str _)⟩
    · exact p.elim
  · rename_i a1 vs xs h1 q1 a2 ws ys h2 q2
    simp only [addD] at p
    split at p
    · rename_i h
      rw [q1.length, q2.length] at h
      refine op_catA pins s σ H _ _ v u Q I rx ry ⟨_, _, _, _, rfl, rfl, h1, h2, h, fun e => ?_, fun _ e => ?_, fun _ _ p' hp => ?_⟩
      · have : xs = [] := List.length_eq_zero_iff.mp (by rw [q1.length, e]; rfl)
        subst this
        exact p α H _ xt L (.tup h2 q2)
      · have : ys = [] := List.length_eq_zero_iff.mp (by rw [q2.length, e]; rfl)
        subst this
        rw [List.append_nil] at p
        exact p α H _ xt L (.tup h1 q1)
      · exact fin_tup p xt L (q1.append q2) hp
    · exact p.elim
  · rename_i m hm n hn
    simp only [addD] at p
    split at p <;> try exact p.elim
    rename_i xs ys e1 e2
    split at p
    · rename_i h
      obtain ⟨vs, h1, q1⟩ := lk_lst L e1
      obtain ⟨ws, h2, q2⟩ := lk_lst L e2
      rw [q1.length, q2.length] at h
      exact op_cat pins s σ H _ _ v u Q I rx ry ⟨_, _, _, _, rfl, rfl, h1, h2, h, fun p' hp => fin_lst p xt L (q1.append q2) hp⟩
    · exact p.elim
/-- ints alone -/
def int2 (C : Int → Int → Bool) (g : Int → Int → Int) : D → D → Sto → R D
  | .int i, .int j, st => if C i j = true then .ok (.int (g i j)) st else .bad
  | _, _, _ => .bad
theorem d_int2 {op : Operator} {C : Int → Int → Bool} {Cp : Int → Int → Prop} {g : Int → Int → Int} (h : OpR X (binaryOp op) (rI Cp fun i j => .int (g i j))) (hc : ∀ i j, C i j = true → Cp i j) : OpR X (binaryOp op) (rD2 X.K ca (int2 C g)) := by
  intro pins s σ H x y v u Q I rx ry ⟨α, st, α0, N0, H0, dx, dy, W, L, xt, r1, r2, p⟩
  cases r1 <;> cases r2 <;> try exact False.elim p
  simp only [int2] at p
  split at p
  · rename_i q
    exact h pins s σ H _ _ v u Q I rx ry ⟨_, _, rfl, rfl, hc _ _ q, p α H _ xt L (.int _)⟩
  · exact p.elim
theorem d_int20 {op : Operator} {g : Int → Int → Int} (h : OpR X (binaryOp op) (rI0 fun i j => .int (g i j))) : OpR X (binaryOp op) (rD2 X.K ca (int2 (fun _ _ => true) g)) :=
  d_int2 (Cp := fun _ _ => True) (fun pins s σ H x y v u Q I rx ry ⟨i, j, e1, e2, _, q⟩ => h pins s σ H x y v u Q I rx ry ⟨i, j, e1, e2, q⟩) fun _ _ _ => trivial
def subD : D → D → Sto → R D := int2 (fun _ _ => true) fun i j => i - j
def mulC (i j : Int) : Bool := decide (i.natAbs.log2 + j.natAbs.log2 < 1000000) || (decide (-(2 ^ 64) < i ∧ i < 2 ^ 64) || decide (-(2 ^ 64) < j ∧ j < 2 ^ 64))
def fdivC (_ j : Int) : Bool := decide (j ≠ 0) && decide (j.natAbs.log2 < 9000)
def modC (_ j : Int) : Bool := decide (j ≠ 0)
def shC (i j : Int) : Bool := decide (0 ≤ j ∧ j ≤ 1000000 ∧ i.natAbs < 2 ^ 64)
theorem d_sub : OpR X (binaryOp .Sub) (rD2 X.K ca subD) := d_int20 op_sub
theorem op_mulA : OpR X (binaryOp .Mult) (rI (fun i j => CMulW i j ∨ CMul i j) fun i j => .int (i * j)) := by
  intro pins s σ H x y v u Q I rx ry ⟨i, j, e1, e2, hc, q⟩
  rcases hc with hc | hc
  · exact op_mulW pins s σ H x y v u Q I rx ry ⟨i, j, e1, e2, hc, q⟩
  · exact op_mul pins s σ H x y v u Q I rx ry ⟨i, j, e1, e2, hc, q⟩
theorem op_fdivA : OpR X (binaryOp .FloorDiv) (rI (fun _ j => j ≠ 0 ∧ j.natAbs.log2 < 9000) fun i j => .int (i.fdiv j)) := opI fun _ _ _ _ _ _ _ hc q => floordiv_int hc.1 q (.inl (PyProof.noPylong_of_log2 hc.2))
def mulD : D → D → Sto → R D := int2 mulC fun i j => i * j
def fdivD : D → D → Sto → R D := int2 fdivC fun i j => i.fdiv j
def modD : D → D → Sto → R D := int2 modC fun i j => i.fmod j
def powD : D → D → Sto → R D := int2 shC fun i j => i ^ j.toNat
def shlD : D → D → Sto → R D := int2 shC fun i j => i * 2 ^ j.toNat
def shrD : D → D → Sto → R D := int2 (fun _ j => decide (0 ≤ j)) fun i j => i / 2 ^ j.toNat
def andD : D → D → Sto → R D := int2 (fun _ _ => true) Builtin.bitAnd
def orD : D → D → Sto → R D := int2 (fun _ _ => true) Builtin.bitOr
def xorD : D → D → Sto → R D := int2 (fun _ _ => true) Builtin.bitXor
theorem d_mul : OpR X (binaryOp .Mult) (rD2 X.K ca mulD) := d_int2 op_mulA fun i j h => by
  unfold mulC at h
  rcases Bool.or_eq_true _ _ |>.mp h with h | h
  · have h' := of_decide_eq_true h
    exact .inl h'
  · rcases Bool.or_eq_true _ _ |>.mp h with h | h
    · exact .inr (.inl (of_decide_eq_true h))
    · exact .inr (.inr (of_decide_eq_true h))
theorem d_fdiv : OpR X (binaryOp .FloorDiv) (rD2 X.K ca fdivD) := d_int2 op_fdivA fun i j h => by
  have := Bool.and_eq_true _ _ |>.mp h
  exact ⟨of_decide_eq_true this.1, of_decide_eq_true this.2⟩
theorem d_mod : OpR X (binaryOp .Mod) (rD2 X.K ca modD) := d_int2 op_modN fun i j h => of_decide_eq_true h
theorem d_pow : OpR X (binaryOp .Pow) (rD2 X.K ca powD) := d_int2 op_pow fun i j h => by have h' := of_decide_eq_true h; exact h'
theorem d_shl : OpR X (binaryOp .LShift) (rD2 X.K ca shlD) := d_int2 op_shl fun i j h => by have h' := of_decide_eq_true h; exact h'
theorem d_shr : OpR X (binaryOp .RShift) (rD2 X.K ca shrD) := d_int2 op_shr fun i j h => of_decide_eq_true h
theorem d_and : OpR X (binaryOp .BitAnd) (rD2 X.K ca andD) := d_int20 op_and
theorem d_or : OpR X (binaryOp .BitOr) (rD2 X.K ca orD) := d_int20 op_or
theorem d_xor : OpR X (binaryOp .BitXor) (rD2 X.K ca xorD) := d_int20 op_xor
def negD : D → Sto → R D
  | .int i, st => .ok (.int (-i)) st
  | _, _ => .bad
theorem d_neg : UnR X (unaryOp .USub) (rD1 X.K ca negD) := by
  intro pins s σ H x v Q I rx ⟨α, st, α0, N0, H0, dx, W, L, xt, r1, p⟩
  cases r1 <;> try exact False.elim p
  exact un_neg pins s σ H _ v Q I rx ⟨_, rfl, p α H _ xt L (.int _)⟩

/-! ### comparisons -/
def cmpI (g : Int → Int → Bool) : D → D → Sto → R D
  | .int i, .int j, st => .ok (.bl (g i j)) st
  | _, _, _ => .bad
theorem cmpI_bool (g : Int → Int → Bool) : BoolOp (cmpI g) := by
  intro x y st
  cases x <;> cases y <;> first | exact .inl ⟨_, rfl⟩ | exact .inr rfl
theorem d_cmpI {op : CmpOp} {g : Int → Int → Bool} (h : OpR X (compareOp op) (rI0 fun i j => .bl (g i j))) : OpR X (compareOp op) (rD2 X.K ca (cmpI g)) := by
  intro pins s σ H x y v u Q I rx ry ⟨α, st, α0, N0, H0, dx, dy, W, L, xt, r1, r2, p⟩
  cases r1 <;> cases r2 <;> try exact False.elim p
  exact h pins s σ H _ _ v u Q I rx ry ⟨_, _, rfl, rfl, p α H _ xt L (.bl _)⟩
def ltD := cmpI fun i j => decide (i < j)
def leD := cmpI fun i j => decide (i ≤ j)
def gtD := cmpI fun i j => decide (j < i)
def geD := cmpI fun i j => decide (j ≤ i)
theorem d_lt : OpR X (compareOp .Lt) (rD2 X.K ca ltD) := d_cmpI op_lt
theorem d_le : OpR X (compareOp .LtE) (rD2 X.K ca leD) := d_cmpI op_le
theorem d_gt : OpR X (compareOp .Gt) (rD2 X.K ca gtD) := d_cmpI op_gt
theorem d_ge : OpR X (compareOp .GtE) (rD2 X.K ca geD) := d_cmpI op_ge
def isND : D → D → Sto → R D
  | x, .non, st => .ok (.bl (match x with | .non => true | _ => false)) st
  | _, _, _ => .bad
def notND : D → D → Sto → R D
  | x, .non, st => .ok (.bl (match x with | .non => false | _ => true)) st
  | _, _, _ => .bad
theorem d_isN : OpR X (compareOp .Is) (rD2 X.K ca isND) := by
  intro pins s σ H x y v u Q I rx ry ⟨α, st, α0, N0, H0, dx, dy, W, L, xt, r1, r2, p⟩
  cases r2 <;> try exact False.elim p
  refine op_isN pins s σ H _ _ v u Q I rx ry ⟨rfl, ?_⟩
  cases r1 <;> exact p α H _ xt L (.bl _)
theorem d_notN : OpR X (compareOp .IsNot) (rD2 X.K ca notND) := by
  intro pins s σ H x y v u Q I rx ry ⟨α, st, α0, N0, H0, dx, dy, W, L, xt, r1, r2, p⟩
  cases r2 <;> try exact False.elim p
  refine op_notN pins s σ H _ _ v u Q I rx ry ⟨rfl, ?_⟩
  cases r1 <;> exact p α H _ xt L (.bl _)

/-! ### == of data -/
mutual
/-- a value as data -/
def pd : D → Option PyData
  | .non => some .none
  | .bl b => some (.bool b)
  | .int i => some (.int i)
  | .str x => some (.str x)
  | .tup xs => (pdAll xs).map .tuple
  | .con xs => (pdAll xs).map .list
  | .loc _ => none
def pdAll : List D → Option (List PyData)
  | [] => some []
  | x :: xs => (pd x).bind fun a => (pdAll xs).map fun r => a :: r
end
mutual
theorem pd_ok {K : Frag} {α : Nat → Addr} {N : Nat} {H : Hp} : ∀ {d : D} {v : V} {a : PyData}, RV K α N H d v → pd d = some a → Dp K H v a
  | _, _, _, .non, e => by simp only [pd, Option.some.injEq] at e; subst e; exact .non
  | _, _, _, .bl b, e => by simp only [pd, Option.some.injEq] at e; subst e; exact .bl b
  | _, _, _, .int i, e => by simp only [pd, Option.some.injEq] at e; subst e; exact .int i
  | _, _, _, .str x, e => by simp only [pd, Option.some.injEq] at e; subst e; exact .str x
  | _, _, _, .tup h r, e => by
    simp only [pd] at e
    obtain ⟨ds, h1, h2⟩ := Option.map_eq_some_iff.mp e
    subst h2
    exact .tup h (pdAll_ok r h1)
  | _, _, _, .con h r, e => by
    simp only [pd] at e
    obtain ⟨ds, h1, h2⟩ := Option.map_eq_some_iff.mp e
    subst h2
    exact .lst h.sq (pdAll_ok r h1)
  | _, _, _, .loc _, e => by simp [pd] at e
theorem pdAll_ok {K : Frag} {α : Nat → Addr} {N : Nat} {H : Hp} : ∀ {d : List D} {v : List V} {a : List PyData}, RVs K α N H d v → pdAll d = some a → DpAll K H v a
  | _, _, _, .nil, e => by simp only [pdAll, Option.some.injEq] at e; subst e; exact .nil
  | _, _, _, .cons h r, e => by
    simp only [pdAll] at e
    obtain ⟨x, h1, h2⟩ := Option.bind_eq_some_iff.mp e
    obtain ⟨y, h3, h4⟩ := Option.map_eq_some_iff.mp h2
    subst h4
    exact .cons (pd_ok h h1) (pdAll_ok r h3)
end
/-- .. a list of the store too -/
def pdS (st : Sto) : D → Option PyData
  | .loc n => match st[n]? with
    | some (.lst xs) => (pdAll xs).map .list
    | _ => none
  | d => pd d
theorem pdS_ok {K : Frag} {α : Nat → Addr} {st : Sto} {H : Hp} {d : D} {v : V} {a : PyData} (L : Lk K ca α st H) (r : RV K α st.length H d v) (e : pdS st d = some a) : Dp K H v a := by
  cases r with
  | loc h =>
    rename_i n
    unfold pdS at e
    dsimp only at e
    split at e
    · rename_i xs q
      obtain ⟨vs, h1, h2⟩ := lk_lst L q
      obtain ⟨ds, h3, h4⟩ := Option.map_eq_some_iff.mp e
      subst h4
      exact .lst (.inl (.inl h1)) (pdAll_ok h2 h3)
    · cases e
  | _ => exact pd_ok (α := α) (N := st.length) (by constructor <;> assumption) e
def scalD : D → D → Bool
  | .int _, .int _ => true | .bl _, .bl _ => true | .str _, .str _ => true | .non, .non => true
  | .int _, .non => true | .non, .int _ => true | .str _, .non => true | .non, .str _ => true | .bl _, .non => true | .non, .bl _ => true
  | .int _, .str _ => true | .str _, .int _ => true | .bl _, .str _ => true | .str _, .bl _ => true
  | _, _ => false
def eqS : D → D → Bool
  | .int i, .int j => decide (i = j) | .bl i, .bl j => decide (i = j) | .str i, .str j => decide (i = j) | .non, .non => true
  | _, _ => false
/-- whether two values are equal, where that is told -/
def eqO (x y : D) (st : Sto) : Option Bool :=
  if scalD x y = true then some (eqS x y) else
  match pdS st x, pdS st y with
  | some a, some b => if SeqAt.shaped a = true ∧ SeqAt.shaped b = true then some (PyData.eqv a b) else none
  | _, _ => none
def eqD : D → D → Sto → R D := fun x y st => match eqO x y st with
  | some b => .ok (.bl b) st
  | none => .bad
def neD : D → D → Sto → R D := fun x y st => match eqO x y st with
  | some b => .ok (.bl (!b)) st
  | none => .bad
theorem scalD_eq {K : Frag} {α : Nat → Addr} {N : Nat} {H : Hp} {dx dy : D} {x y : V} (r1 : RV K α N H dx x) (r2 : RV K α N H dy y) (h : scalD dx dy = true) : scal x y = true ∧ decide (x = y) = eqS dx dy := by
  cases r1 <;> cases r2 <;> first
    | exact absurd h Bool.false_ne_true
    | exact ⟨rfl, by simp [eqS]⟩
theorem d_eqne {op : CmpOp} {f : D → D → Sto → R D} {g : Bool → Bool} (hf : ∀ x y st, f x y st = match eqO x y st with | some b => .ok (.bl (g b)) st | none => .bad)
    (h1 : OpR X (compareOp op) fun x y H Q => scal x y = true ∧ Q (.bl (g (decide (x = y)))) H)
    (h2 : OpR X (compareOp op) fun x y H Q => ∃ d e, Dp X.K H x d ∧ Dp X.K H y e ∧ SeqAt.shaped d = true ∧ SeqAt.shaped e = true ∧ Q (.bl (g (PyData.eqv d e))) H) : OpR X (compareOp op) (rD2 X.K ca f) := by
  intro pins s σ H x y v u Q I rx ry ⟨α, st, α0, N0, H0, dx, dy, W, L, xt, r1, r2, p⟩
  rw [hf] at p
  unfold eqO at p
  by_cases hs : scalD dx dy = true
  · rw [if_pos hs] at p
    obtain ⟨e1, e2⟩ := scalD_eq r1 r2 hs
    exact h1 pins s σ H _ _ v u Q I rx ry ⟨e1, by rw [e2]; exact p α H _ xt L (.bl _)⟩
  · rw [if_neg hs] at p
    cases q1 : pdS st dx with
    | none => rw [q1] at p; exact p.elim
    | some da =>
      cases q2 : pdS st dy with
      | none => rw [q1, q2] at p; exact p.elim
      | some db =>
        rw [q1, q2] at p
        dsimp only at p
        by_cases hz : SeqAt.shaped da = true ∧ SeqAt.shaped db = true
        · rw [if_pos hz] at p
          exact h2 pins s σ H _ _ v u Q I rx ry ⟨da, db, pdS_ok L r1 q1, pdS_ok L r2 q2, hz.1, hz.2, p α H _ xt L (.bl _)⟩
        · rw [if_neg hz] at p
          exact p.elim
theorem d_eq (hu : X.A.units + 64 < cLine) : OpR X (compareOp .Eq) (rD2 X.K ca eqD) := d_eqne (g := fun b => b) (fun _ _ _ => rfl) op_eq (op_eqD hu)
theorem d_ne (hu : X.A.units + 64 < cLine) : OpR X (compareOp .NotEq) (rD2 X.K ca neD) := d_eqne (g := fun b => !b) (fun _ _ _ => rfl) op_ne (op_neD hu)
end
end PM

set_option Elab.async false
set_option linter.all false
set_option maxRecDepth 100000
set_option maxHeartbeats 4000000
/-! PM3: tests, displays, subscripts, built-ins. -/
namespace PM
open PySem PySem.Spec PyProof.Rows L2
section
variable {X : Cx} {ca : Nat → Addr} {W : WX} {a b c : Expr} {ea eb ec : E} {pos : Pos} {es : List Expr} {rest : List Expr}

/-! ### one after another, two result kinds -/
theorem tG_seq {K : Frag} {β γ β' γ' : Type} {rel : Rel β γ} {rel' : Rel β' γ'} {e : Env → Sto → R β} {f : Env → β → Sto → R β'} {σ : L2.St} {H : Hp} {Q : γ' → Hp → Prop} {T : γ → Hp → Prop}
    (h : tG K ca rel' W (fun ρ st => (e ρ st).bind (f ρ)) σ H Q)
    (go : ∀ α st ρ α0 N0 H0 b g H1, At K ca α st H1 ρ σ → Xt K α0 N0 H0 α st.length H1 → rel H0 α st.length H1 b g → Post K ca rel' α0 N0 H0 (fun c d H' => W c d σ H') Q (f ρ b st) → T g H1) :
    tG K ca rel W e σ H T := by
  obtain ⟨α, st, ρ, a, p⟩ := h
  refine ⟨α, st, ρ, a, ?_⟩
  have p : Post K ca rel' α st.length H (fun c d H' => W c d σ H') Q ((e ρ st).bind (f ρ)) := p
  revert p
  cases e ρ st with
  | ok b st1 => exact fun p α1 H1 g x L r => go α1 st1 ρ α st.length H b g H1 (a.later x L) x r p
  | exc c fs st1 => exact fun p => p
  | bad => exact fun p => p

theorem tG_next {K : Frag} {β γ β' γ' : Type} {rel : Rel β γ} {rel' : Rel β' γ'} {e : Env → Sto → R β} {f : β → Sto → R β'} {σ : L2.St} {H0 H1 : Hp} {Q : γ' → Hp → Prop} {T : γ → Hp → Prop} {α α0 : Nat → Addr} {st : Sto} {N0 : Nat} {ρ : Env}
    (a : At K ca α st H1 ρ σ) (x : Xt K α0 N0 H0 α st.length H1) (p : Post K ca rel' α0 N0 H0 (fun c d H' => W c d σ H') Q ((e ρ st).bind f))
    (go : ∀ α2 st2 b g H2, At K ca α2 st2 H2 ρ σ → Xt K α st.length H1 α2 st2.length H2 → Xt K α0 N0 H0 α2 st2.length H2 → rel H1 α2 st2.length H2 b g → Post K ca rel' α0 N0 H0 (fun c d H' => W c d σ H') Q (f b st2) → T g H2) :
    tG K ca rel W e σ H1 T := by
  refine ⟨α, st, ρ, a, ?_⟩
  revert p
  cases e ρ st with
  | ok b st1 => exact fun p α1 H2 g x2 L r => go α1 st1 b g H2 (a.later x2 L) x2 (x.trans x2) r p
  | exc c fs st1 => exact fun p α1 H2 dd x2 L r => p α1 H2 dd (x.trans x2) L r
  | bad => exact fun p => p

/-! ### and, or, not -/
def cAnd (a b : E) : E := fun ρ st => (a ρ st).bind fun x st => match x with
  | .bl true => b ρ st
  | .bl false => .ok (.bl false) st
  | _ => .bad
def cOr (a b : E) : E := fun ρ st => (a ρ st).bind fun x st => match x with
  | .bl false => b ρ st
  | .bl true => .ok (.bl true) st
  | _ => .bad
def cNot (a : E) : E := fun ρ st => (a ρ st).bind fun x st => match x with
  | .bl k => .ok (.bl (!k)) st
  | _ => .bad
theorem qe_one {op} (h : QE X ca W a ea) : QE X ca W (.BoolOp op [a] pos) ea := pe_one h
theorem qe_and (ha : QE X ca W a ea) (hb : QE X ca W (.BoolOp .And (b :: rest) pos) eb) : QE X ca W (.BoolOp .And (a :: b :: rest) pos) (cAnd ea eb) :=
  peW (pe_and ha hb) fun σ H Q h => tG_seq h fun α st ρ α0 N0 H0 d v H1 at1 x r p => by
    cases r <;> try exact False.elim p
    rename_i k
    refine ⟨k, rfl, ?_⟩
    cases k with
    | true => rw [if_pos rfl]; exact ⟨α, st, ρ, at1, Post.later relV_ok x p⟩
    | false => exact p α H1 _ x at1.lk (.bl false)
theorem qe_or (ha : QE X ca W a ea) (hb : QE X ca W (.BoolOp .Or (b :: rest) pos) eb) : QE X ca W (.BoolOp .Or (a :: b :: rest) pos) (cOr ea eb) :=
  peW (pe_or ha hb) fun σ H Q h => tG_seq h fun α st ρ α0 N0 H0 d v H1 at1 x r p => by
    cases r <;> try exact False.elim p
    rename_i k
    refine ⟨k, rfl, ?_⟩
    cases k with
    | false => rw [if_neg Bool.false_ne_true]; exact ⟨α, st, ρ, at1, Post.later relV_ok x p⟩
    | true => exact p α H1 _ x at1.lk (.bl true)
theorem qe_not (ha : QE X ca W a ea) : QE X ca W (.UnaryOp .Not a pos) (cNot ea) :=
  peW (pe_not ha) fun σ H Q h => tG_seq h fun α st ρ α0 N0 H0 d v H1 at1 x r p => by
    cases r <;> try exact False.elim p
    exact ⟨_, rfl, p α H1 _ x at1.lk (.bl _)⟩
variable {ta tb tc : ET}
def tAndD (a b : ET) : ET := fun ρ st => (a ρ st).bind fun k st => match k with
  | true => b ρ st
  | false => .ok false st
def tOrD (a b : ET) : ET := fun ρ st => (a ρ st).bind fun k st => match k with
  | true => .ok true st
  | false => b ρ st
def tNotD (a : ET) : ET := fun ρ st => (a ρ st).bind fun k st => .ok (!k) st
theorem qt_w (h : QW X ca W a ta) : QT X ca W a ta := h.pt
theorem qw_and1 (h : QT X ca W a ta) : QW X ca W (.BoolOp .And [a] pos) ta := pw_and1 h
theorem qw_or1 (h : QT X ca W a ta) : QW X ca W (.BoolOp .Or [a] pos) ta := pw_or1 h
theorem qw_and (ha : QT X ca W a ta) (hb : QW X ca W (.BoolOp .And (b :: rest) pos) tb) : QW X ca W (.BoolOp .And (a :: b :: rest) pos) (tAndD ta tb) :=
  pwW (pw_and ha hb) fun σ H Q h => tG_seq h fun α st ρ α0 N0 H0 k k' H1 at1 x r p => by
    cases r
    cases k with
    | true => rw [if_pos rfl]; exact ⟨α, st, ρ, at1, Post.later relB_ok x p⟩
    | false => rw [if_neg Bool.false_ne_true]; exact p α H1 _ x at1.lk rfl
theorem qw_or (ha : QT X ca W a ta) (hb : QW X ca W (.BoolOp .Or (b :: rest) pos) tb) : QW X ca W (.BoolOp .Or (a :: b :: rest) pos) (tOrD ta tb) :=
  pwW (pw_or ha hb) fun σ H Q h => tG_seq h fun α st ρ α0 N0 H0 k k' H1 at1 x r p => by
    cases r
    cases k with
    | false => rw [if_neg Bool.false_ne_true]; exact ⟨α, st, ρ, at1, Post.later relB_ok x p⟩
    | true => rw [if_pos rfl]; exact p α H1 _ x at1.lk rfl
theorem qt_not (ha : QT X ca W a ta) : QT X ca W (.UnaryOp .Not a pos) (tNotD ta) :=
  ptW (pt_not ha) fun σ H Q h => tG_seq h fun α st ρ α0 N0 H0 k k' H1 at1 x r p => by
    cases r
    exact p α H1 _ x at1.lk rfl
/-- a value's truth -/
def truD : D → Sto → R Bool
  | .non, st => .ok false st
  | .bl b, st => .ok b st
  | .int i, st => .ok (i != 0) st
  | .str y, st => if y.length ≤ sizeLine then .ok ((y.length : Int) != 0) st else .bad
  | .tup xs, st => .ok (!xs.isEmpty) st
  | .con xs, st => .ok (!xs.isEmpty) st
  | .loc n, st => match st[n]? with
    | some (.lst xs) => .ok (!xs.isEmpty) st
    | some (.dct xs) => .ok (!xs.isEmpty) st
    | _ => .bad
theorem RVs.isEmpty {K : Frag} {α : Nat → Addr} {N : Nat} {H : Hp} {d : List D} {v : List V} (r : RVs K α N H d v) : d.isEmpty = v.isEmpty := by cases r <;> rfl
theorem RKs.length {K : Frag} {α : Nat → Addr} {N : Nat} {H : Hp} {κ : Type} : ∀ {d : List (κ × D)} {v : List (κ × V)}, RKs K α N H d v → d.length = v.length
  | _, _, .nil => rfl
  | _, _, .cons _ r => congrArg (· + 1) r.length
theorem RKs.isEmpty {K : Frag} {α : Nat → Addr} {N : Nat} {H : Hp} {κ : Type} {d : List (κ × D)} {v : List (κ × V)} (r : RKs K α N H d v) : d.isEmpty = v.isEmpty := by cases r <;> rfl
def cTru (e : E) : ET := fun ρ st => (e ρ st).bind fun x st => truD x st
theorem qt_truth (ha : QE X ca W a ea) (he : ∀ whole, isTrue a X.env whole = (do let v ← whole; standAt a.pos; holding [v] (truthy v)) := by intro _; rfl) : QT X ca W a (cTru ea) :=
  ptW (pt_truth ha he) fun σ H Q h => tG_seq h fun α st ρ α0 N0 H0 d v H1 at1 x r p => by
    cases r with
    | non => exact ⟨false, rfl, p α H1 _ x at1.lk rfl⟩
    | bl b => exact ⟨b, rfl, p α H1 _ x at1.lk rfl⟩
    | int i => exact ⟨_, rfl, p α H1 _ x at1.lk rfl⟩
    | str y =>
      simp only [truD] at p
      split at p
      · rename_i hy
        exact ⟨_, ⟨hy, rfl⟩, p α H1 _ x at1.lk rfl⟩
      · exact p.elim
    | tup h r => exact ⟨_, .inr (.inl ⟨_, h, rfl⟩), p α H1 _ x at1.lk (congrArg (!·) r.isEmpty)⟩
    | con h r => exact ⟨_, .inl ⟨_, h.sq, rfl⟩, p α H1 _ x at1.lk (congrArg (!·) r.isEmpty)⟩
    | loc hn =>
      simp only [truD] at p
      split at p
      · rename_i xs e
        obtain ⟨vs, h1, q1⟩ := lk_lst at1.lk e
        exact ⟨_, .inl ⟨_, .inl (.inl h1), rfl⟩, p α H1 _ x at1.lk (congrArg (!·) q1.isEmpty)⟩
      · rename_i xs e
        obtain ⟨ho, h1, q1⟩ := at1.lk.at_ _ _ e
        cases q1 with
        | dct q1 => exact ⟨_, .inr (.inr ⟨_, h1, rfl⟩), p α H1 _ x at1.lk (congrArg (!·) q1.isEmpty)⟩
      · exact p.elim
/-- a if t else b -/
def cIf (t : ET) (a b : E) : E := fun ρ st => (t ρ st).bind fun k st => match k with
  | true => a ρ st
  | false => b ρ st
theorem qe_if (ht : QT X ca W c tc) (ha : QE X ca W a ea) (hb : QE X ca W b eb) : QE X ca W (.IfExp c a b pos) (cIf tc ea eb) :=
  peW (pe_ifExp ht ha hb) fun σ H Q h => tG_seq h fun α st ρ α0 N0 H0 k k' H1 at1 x r p => by
    cases r
    cases k with
    | true => rw [if_pos rfl]; exact ⟨α, st, ρ, at1, Post.later relV_ok x p⟩
    | false => rw [if_neg Bool.false_ne_true]; exact ⟨α, st, ρ, at1, Post.later relV_ok x p⟩

/-! ### argument lists, displays -/
def cArgs : List E → EL
  | [] => fun _ st => .ok [] st
  | e :: r => fun ρ st => (e ρ st).bind fun x st => (cArgs r ρ st).bind fun xs st => .ok (x :: xs) st
theorem cArgs_length : ∀ {es : List E} {ρ : Env} {st st' : Sto} {xs : List D}, cArgs es ρ st = .ok xs st' → xs.length = es.length
  | [], ρ, st, st', xs, h => by simp only [cArgs, R.ok.injEq] at h; rw [← h.1]; rfl
  | e :: r, ρ, st, st', xs, h => by
    simp only [cArgs] at h
    cases q : e ρ st with
    | ok x st1 =>
      rw [q, R.bind_ok] at h
      cases q2 : cArgs r ρ st1 with
      | ok ys st2 =>
        rw [q2, R.bind_ok] at h
        simp only [R.ok.injEq] at h
        rw [← h.1, List.length_cons, List.length_cons, cArgs_length q2]
      | exc _ _ _ => rw [q2] at h; cases h
      | bad => rw [q2] at h; cases h
    | exc _ _ _ => rw [q] at h; cases h
    | bad => rw [q] at h; cases h
theorem qa_nil : QA X ca W [] (cArgs []) := paW pa_nil fun σ H Q ⟨α, st, ρ, a, p⟩ => p α H [] .refl a.lk .nil
theorem qa_cons {e : Expr} {ee : E} {ees : List E} (h1 : QE X ca W e ee) (h2 : QA X ca W es (cArgs ees)) (hs : starEach (e :: es) X.env = (false, eval e X.env) :: starEach es X.env := by rfl) : QA X ca W (e :: es) (cArgs (ee :: ees)) :=
  paW (pa_cons h1 h2 hs) fun σ H Q ⟨α, st, ρ, a, p⟩ => tG_next a .refl p fun α1 st1 d v H1 a1 _ x1 r1 p1 =>
    tG_next a1 x1 p1 fun α2 st2 ds vs H2 a2 x2 xb r2 p2 => p2 α2 H2 _ xb a2.lk (.cons (RV.mono x2.toGr r1) r2)
/-- a tuple that is written out -/
def cTup (es : List E) : E := fun ρ st => (cArgs es ρ st).bind fun xs st => .ok (.tup xs) st
theorem tG_next2 {K : Frag} {β γ β' γ' : Type} {rel : Rel β γ} {rel' : Rel β' γ'} {e : Env → Sto → R β} {f : β → Sto → R β'} {σ : L2.St} {H0 H1 : Hp} {Q : γ' → Hp → Prop} {T : γ → Hp → Prop} {α α0 : Nat → Addr} {st : Sto} {N0 : Nat} {ρ : Env}
    (a : At K ca α st H1 ρ σ) (x : Xt K α0 N0 H0 α st.length H1) (p : Post K ca rel' α0 N0 H0 (fun c d H' => W c d σ H') Q ((e ρ st).bind f))
    (go : ∀ α2 st2 b g H2, e ρ st = .ok b st2 → At K ca α2 st2 H2 ρ σ → Xt K α0 N0 H0 α2 st2.length H2 → rel H1 α2 st2.length H2 b g → Post K ca rel' α0 N0 H0 (fun c d H' => W c d σ H') Q (f b st2) → T g H2) :
    tG K ca rel W e σ H1 T := by
  refine ⟨α, st, ρ, a, ?_⟩
  cases q : e ρ st with
  | ok b st1 => rw [q] at p; exact fun α1 H2 g x2 L r => go α1 st1 b g H2 q (a.later x2 L) (x.trans x2) r p
  | exc c fs st1 => rw [q] at p; exact fun α1 H2 dd x2 L r => p α1 H2 dd (x.trans x2) L r
  | bad => rw [q] at p; exact p
theorem qe_tup {x1} {ees : List E} (h : QA X ca W es (cArgs ees)) (hz : ees.length ≤ 1000 := by decide) : QE X ca W (.Tuple es x1 pos) (cTup ees) :=
  peW (pe_tup h) fun σ H Q ⟨α, st, ρ, a, p⟩ => tG_next2 a .refl p fun α1 st1 ds vs H1 q a1 x1 r1 p1 => by
    have e := cArgs_length q
    have e2 := RVs.length r1
    refine ⟨by rw [sizeLine_eq]; omega, fun p hp => fin_tup p1 x1 a1.lk r1 hp⟩
/-- a list that is written out: no name holds it yet -/
def cLst (es : List E) : EL := cArgs es
theorem fin_new {K : Frag} {α α0 : Nat → Addr} {st : Sto} {N0 : Nat} {H H0 : Hp} {W : XK} {Q : VK} {xs : List D} {vs : List V} {p : Addr} (q : Post K ca (relL K) α0 N0 H0 W Q (.ok xs st)) (xt : Xt K α0 N0 H0 α st.length H) (L : Lk K ca α st H)
    (r : RVs K α st.length H xs vs) (hp : H p = none) : Q (.ref p) (upd H p (.lst vs)) :=
  q α _ _ (xt.trans (xt_new hp)) (L.temp hp) ⟨p, vs, rfl, xt.fresh hp, upd_same, r.mono (xt_new hp).toGr, fun n hn e => by
    obtain ⟨x, hx⟩ := L.there hn
    rw [e, hp] at hx; cases hx⟩
theorem bindok {β : Type} (r : R β) : r.bind (fun x st => .ok x st) = r := by cases r <;> rfl
theorem ql_lst {ees : List E} (h : QA X ca W es (cArgs ees)) (hz : ees.length ≤ 1000 := by decide) : QL X ca W (.List es pos) (cLst ees) :=
  peW (pe_lst h) fun σ H Q ⟨α, st, ρ, a, p⟩ => by
    have p : Post X.K ca (relL X.K) α st.length H (fun c d H' => W c d σ H') Q ((cArgs ees ρ st).bind fun xs st => .ok xs st) := by rw [bindok]; exact p
    refine tG_next2 a .refl p fun α1 st1 ds vs H1 q a1 x1 r1 p1 => ?_
    have e := cArgs_length q
    have e2 := RVs.length r1
    exact ⟨by rw [sizeLine_eq]; omega, fun p hp => fin_new p1 x1 a1.lk r1 hp⟩
/-- a list in passing is kept -/
def cNew (e : EL) : E := fun ρ st => (e ρ st).bind fun xs st => .ok (.loc st.length) (st ++ [.lst xs])
theorem qe_new {e : EL} (h : QL X ca W a e) : QE X ca W a (cNew e) :=
  peW h fun σ H Q ⟨α, st, ρ, at0, p⟩ => tG_next2 at0 .refl p fun α1 st1 ds v H1 q a1 x1 r1 p1 => by
    obtain ⟨p, vs, rfl, h0, h1, r, hn⟩ := r1
    obtain ⟨L2, x2⟩ := a1.lk.adopt h1 hn (.lst r) x1 h0
    refine p1 _ H1 _ x2 L2 ?_
    have e : V.ref p = V.ref (ext α1 st1.length p st1.length) := by rw [ext_at]
    rw [e]
    exact .loc (by simp)

/-! ### what is read as a list: a tuple, a list, a list in passing -/
def relS (K : Frag) : Rel (List D) V := fun _ α N H xs v => ∃ p vs, v = .ref p ∧ (SqL K H p vs ∨ SqT K H p vs) ∧ RVs K α N H xs vs
theorem relS_ok {K : Frag} : RelOk (relS K) K := fun _ _ _ _ _ _ _ _ _ _ _ _ _ h => h
def QS (X : Cx) (ca : Nat → Addr) (W : WX) (x : Expr) (e : EL) : Prop := PE X x (tG X.K ca (relS X.K) W e)
def seqD : D → Sto → R (List D)
  | .tup xs, st => .ok xs st
  | .con xs, st => .ok xs st
  | .loc n, st => match st[n]? with
    | some (.lst xs) => .ok xs st
    | _ => .bad
  | _, _ => .bad
def cSeq (e : E) : EL := fun ρ st => (e ρ st).bind seqD
theorem qs_e (h : QE X ca W a ea) : QS X ca W a (cSeq ea) :=
  peW h fun σ H Q ⟨α, st, ρ, a, p⟩ => tG_next a .refl p fun α1 st1 d v H1 a1 _ x1 r1 p1 => by
    cases r1 <;> try exact False.elim p1
    · rename_i h r
      exact p1 α1 H1 _ x1 a1.lk ⟨_, _, rfl, .inr h, r⟩
    · rename_i h r
      exact p1 α1 H1 _ x1 a1.lk ⟨_, _, rfl, .inl h.sq, r⟩
    · simp only [seqD] at p1
      split at p1
      · rename_i xs e
        obtain ⟨vs, h1, q1⟩ := lk_lst a1.lk e
        exact p1 α1 H1 _ x1 a1.lk ⟨_, _, rfl, .inl (.inl (.inl h1)), q1⟩
      · exact p1.elim
theorem qs_l {e : EL} (h : QL X ca W a e) : QS X ca W a e :=
  peW h fun σ H Q ⟨α, st, ρ, a, p⟩ => by
    refine ⟨α, st, ρ, a, ?_⟩
    revert p
    cases e ρ st with
    | ok xs st1 =>
      intro p α1 H1 v x1 L r
      obtain ⟨q, vs, rfl, h0, h1, r, hn⟩ := r
      exact p α1 H1 _ x1 L ⟨q, vs, rfl, .inl (.inl (.inl h1)), r⟩
    | exc c fs st1 => exact fun p => p
    | bad => exact fun p => p

/-! ### built-ins of one argument -/
variable {r : List V → Hp → VK → Prop} {x : Str} {p0 : Pos}
theorem pa1 {t : TE} (h : PE X a t) (hs : starEach [a] X.env = (false, eval a X.env) :: starEach [] X.env := by rfl) : PA X [a] (tCons t tNil) := pa_cons h pa_nil hs
def cB1 {β : Type} (f : D → Sto → R β) (e : E) : Env → Sto → R β := fun ρ st => (e ρ st).bind f
def cS1 {β : Type} (f : List D → Sto → R β) (e : EL) : Env → Sto → R β := fun ρ st => (e ρ st).bind f
/-- a rule for a call by values: of one value; of one thing read as a list -/
def ruleD {β : Type} (K : Frag) (ca : Nat → Addr) (rel : Rel β V) (f : D → Sto → R β) (r : List V → Hp → VK → Prop) : Prop := ∀ α st α0 N0 H0 H W d v (Q : VK), Lk K ca α st H → Xt K α0 N0 H0 α st.length H → RV K α st.length H d v → Post K ca rel α0 N0 H0 W Q (f d st) → r [v] H Q
def ruleS {β : Type} (K : Frag) (ca : Nat → Addr) (rel : Rel β V) (f : List D → Sto → R β) (r : List V → Hp → VK → Prop) : Prop := ∀ α st α0 N0 H0 H W xs p vs (Q : VK), Lk K ca α st H → Xt K α0 N0 H0 α st.length H → (SqL K H p vs ∨ SqT K H p vs) → RVs K α st.length H xs vs → Post K ca rel α0 N0 H0 W Q (f xs st) → r [.ref p] H Q
theorem qb1 {β : Type} {rel : Rel β V} {f : D → Sto → R β} {id : String} (rule : ruleD X.K ca rel f r) (hc : CallR X (.builtin id) r) (ha : QE X ca W a ea) (hg : Gl X x) (hm : X.mg x = none) (hv : bootBuiltins x = some (.builtin id)) (hn : x ≠ "__name__" := by decide) (hdb : (x == ("__debug__" : Str)) = false := by decide)
    (hs : starEach [a] X.env = (false, eval a X.env) :: starEach [] X.env := by rfl) : PE X (.Call (.Name x p0) [a] [] pos) (tG X.K ca rel W (cB1 f ea)) :=
  peW (pe_callB hc hg hm hv (pa1 ha hs) hn hdb hs (by rfl)) fun σ H Q ⟨α, st, ρ, a, p⟩ => tG_next a .refl p fun α1 st1 d v H1 a1 _ x1 r1 p1 => rule _ _ _ _ _ _ _ _ _ _ a1.lk x1 r1 p1
theorem qt1 {β : Type} {rel : Rel β V} {f : D → Sto → R β} {T : String} (rule : ruleD X.K ca rel f r) (hc : CallR X (.type T) r) (ha : QE X ca W a ea) (hg : Gl X x) (hm : X.mg x = none) (hv : bootBuiltins x = some (.type T)) (hn : x ≠ "__name__" := by decide) (hdb : (x == ("__debug__" : Str)) = false := by decide)
    (hs : starEach [a] X.env = (false, eval a X.env) :: starEach [] X.env := by rfl) : PE X (.Call (.Name x p0) [a] [] pos) (tG X.K ca rel W (cB1 f ea)) :=
  peW (pe_callTy hc hg hm hv (pa1 ha hs) hn hdb hs (by rfl)) fun σ H Q ⟨α, st, ρ, a, p⟩ => tG_next a .refl p fun α1 st1 d v H1 a1 _ x1 r1 p1 => rule _ _ _ _ _ _ _ _ _ _ a1.lk x1 r1 p1
theorem qbS {β : Type} {rel : Rel β V} {f : List D → Sto → R β} {id : String} {e : EL} (rule : ruleS X.K ca rel f r) (hc : CallR X (.builtin id) r) (ha : QS X ca W a e) (hg : Gl X x) (hm : X.mg x = none) (hv : bootBuiltins x = some (.builtin id)) (hn : x ≠ "__name__" := by decide) (hdb : (x == ("__debug__" : Str)) = false := by decide)
    (hs : starEach [a] X.env = (false, eval a X.env) :: starEach [] X.env := by rfl) : PE X (.Call (.Name x p0) [a] [] pos) (tG X.K ca rel W (cS1 f e)) :=
  peW (pe_callB hc hg hm hv (pa1 ha hs) hn hdb hs (by rfl)) fun σ H Q ⟨α, st, ρ, a, p⟩ => tG_next a .refl p fun α1 st1 d v H1 a1 _ x1 ⟨q, vs, e, h, r1⟩ p1 => by
    subst e
    exact rule _ _ _ _ _ _ _ _ _ _ _ a1.lk x1 h r1 p1
theorem qtS {β : Type} {rel : Rel β V} {f : List D → Sto → R β} {T : String} {e : EL} (rule : ruleS X.K ca rel f r) (hc : CallR X (.type T) r) (ha : QS X ca W a e) (hg : Gl X x) (hm : X.mg x = none) (hv : bootBuiltins x = some (.type T)) (hn : x ≠ "__name__" := by decide) (hdb : (x == ("__debug__" : Str)) = false := by decide)
    (hs : starEach [a] X.env = (false, eval a X.env) :: starEach [] X.env := by rfl) : PE X (.Call (.Name x p0) [a] [] pos) (tG X.K ca rel W (cS1 f e)) :=
  peW (pe_callTy hc hg hm hv (pa1 ha hs) hn hdb hs (by rfl)) fun σ H Q ⟨α, st, ρ, a, p⟩ => tG_next a .refl p fun α1 st1 d v H1 a1 _ x1 ⟨q, vs, e, h, r1⟩ p1 => by
    subst e
    exact rule _ _ _ _ _ _ _ _ _ _ _ a1.lk x1 h r1 p1

/-- len -/
def lenD : D → Sto → R D
  | .str y, st => if y.length ≤ sizeLine then .ok (.int y.length) st else .bad
  | .tup xs, st => .ok (.int xs.length) st
  | .con xs, st => .ok (.int xs.length) st
  | .loc n, st => match st[n]? with
    | some (.lst xs) => .ok (.int xs.length) st
    | some (.dct xs) => .ok (.int xs.length) st
    | _ => .bad
  | _, _ => .bad
def rLen (X : Cx) : List V → Hp → VK → Prop := fun xs H Q => (∃ x n, xs = [x] ∧ LenV X.K x H n ∧ Q (.int n) H) ∨ ∃ a kvs, xs = [V.ref a] ∧ H a = some (.dK kvs) ∧ Q (.int kvs.length) H
theorem call_lenA : CallR X (.builtin "len") (rLen X) := by
  intro pins s σ H xs us Q I r h
  rcases h with h | h
  · exact call_len pins s σ H xs us Q I r h
  · exact call_lenD pins s σ H xs us Q I r h
theorem rule_len : ruleD X.K ca (relV X.K) lenD (rLen X) := by
  intro α st α0 N0 H0 H W d v Q L xt r p
  cases r <;> try exact False.elim p
  · simp only [lenD] at p
    split at p
    · rename_i h
      exact .inl ⟨_, _, rfl, ⟨h, rfl⟩, p α H _ xt L (.int _)⟩
    · exact p.elim
  · rename_i h r
    exact .inl ⟨_, _, rfl, .inr ⟨_, h, rfl⟩, by rw [← r.length]; exact p α H _ xt L (.int _)⟩
  · rename_i h r
    exact .inl ⟨_, _, rfl, .inl ⟨_, h.sq, rfl⟩, by rw [← r.length]; exact p α H _ xt L (.int _)⟩
  · simp only [lenD] at p
    split at p
    · rename_i xs e
      obtain ⟨vs, h1, q1⟩ := lk_lst L e
      exact .inl ⟨_, _, rfl, .inl ⟨_, .inl (.inl h1), rfl⟩, by rw [← q1.length]; exact p α H _ xt L (.int _)⟩
    · rename_i xs e
      obtain ⟨ho, h1, q1⟩ := L.at_ _ _ e
      cases q1 with
      | dct q1 => exact .inr ⟨_, _, rfl, h1, by rw [← q1.length]; exact p α H _ xt L (.int _)⟩
    · exact p.elim
theorem qe_len (ha : QE X ca W a ea) (hg : Gl X "len") (hm : X.mg "len" = none) (hs : starEach [a] X.env = (false, eval a X.env) :: starEach [] X.env := by rfl) : QE X ca W (.Call (.Name "len" p0) [a] [] pos) (cB1 lenD ea) :=
  qb1 rule_len call_lenA ha hg hm PySem.boot_len (by decide) (by decide) hs
/-- len of a list in passing -/
def lenS : List D → Sto → R D := fun xs st => .ok (.int xs.length) st
theorem rule_lenS : ruleS X.K ca (relV X.K) lenS (rLen X) := by
  intro α st α0 N0 H0 H W xs p vs Q L xt h r q
  refine .inl ⟨_, vs.length, rfl, ?_, by rw [← r.length]; exact q α H _ xt L (.int _)⟩
  rcases h with h | h
  · exact .inl ⟨_, h, rfl⟩
  · exact .inr ⟨_, h, rfl⟩
theorem qe_lenS {e : EL} (ha : QS X ca W a e) (hg : Gl X "len") (hm : X.mg "len" = none) (hs : starEach [a] X.env = (false, eval a X.env) :: starEach [] X.env := by rfl) : QE X ca W (.Call (.Name "len" p0) [a] [] pos) (cS1 lenS e) :=
  qbS rule_lenS call_lenA ha hg hm PySem.boot_len (by decide) (by decide) hs
/-- tuple(xs) -/
def tupS : List D → Sto → R D := fun xs st => .ok (.tup xs) st
theorem rule_tup : ruleS X.K ca (relV X.K) tupS (fun xs H Q => ∃ p ys, xs = [.ref p] ∧ ((SqL X.K H p ys ∧ ∀ l, H l = none → Q (.ref l) (upd H l (.tup ys))) ∨ (SqT X.K H p ys ∧ Q (.ref p) H))) := by
  intro α st α0 N0 H0 H W xs p vs Q L xt h r q
  refine ⟨p, vs, rfl, ?_⟩
  rcases h with h | h
  · exact .inl ⟨h, fun l hl => fin_tup q xt L r hl⟩
  · exact .inr ⟨h, q α H _ xt L (.tup h r)⟩
theorem qe_tuple {e : EL} (ha : QS X ca W a e) (hg : Gl X "tuple") (hm : X.mg "tuple" = none) (hs : starEach [a] X.env = (false, eval a X.env) :: starEach [] X.env := by rfl) : QE X ca W (.Call (.Name "tuple" p0) [a] [] pos) (cS1 tupS e) :=
  qtS rule_tup call_tuple_of ha hg hm (by decide +kernel) (by decide) (by decide) hs
/-- list(xs) -/
def lstS : List D → Sto → R (List D) := fun xs st => .ok xs st
theorem rule_lst : ruleS X.K ca (relL X.K) lstS (fun xs H Q => ∃ p ys, xs = [.ref p] ∧ (SqL X.K H p ys ∨ SqT X.K H p ys) ∧ ∀ l, H l = none → Q (.ref l) (upd H l (.lst ys))) := by
  intro α st α0 N0 H0 H W xs p vs Q L xt h r q
  exact ⟨p, vs, rfl, h, fun l hl => fin_new q xt L r hl⟩
theorem ql_list {e : EL} (ha : QS X ca W a e) (hg : Gl X "list") (hm : X.mg "list" = none) (hs : starEach [a] X.env = (false, eval a X.env) :: starEach [] X.env := by rfl) : QL X ca W (.Call (.Name "list" p0) [a] [] pos) (cS1 lstS e) :=
  qtS rule_lst call_list_of ha hg hm (by decide +kernel) (by decide) (by decide) hs
/-- int(x) -/
def intD : D → Sto → R D
  | .int i, st => .ok (.int i) st
  | .bl k, st => .ok (.int (if k then 1 else 0)) st
  | _, _ => .bad
theorem rule_int : ruleD X.K ca (relV X.K) intD (fun xs H Q => (∃ i, xs = [.int i] ∧ Q (.int i) H) ∨ ∃ k, xs = [.bl k] ∧ Q (.int (if k then 1 else 0)) H) := by
  intro α st α0 N0 H0 H W d v Q L xt r p
  cases r <;> try exact False.elim p
  · exact .inr ⟨_, rfl, p α H _ xt L (.int _)⟩
  · exact .inl ⟨_, rfl, p α H _ xt L (.int _)⟩
theorem qe_intOf (ha : QE X ca W a ea) (hg : Gl X "int") (hm : X.mg "int" = none) (hs : starEach [a] X.env = (false, eval a X.env) :: starEach [] X.env := by rfl) : QE X ca W (.Call (.Name "int" p0) [a] [] pos) (cB1 intD ea) :=
  qt1 rule_int call_int1 ha hg hm (by decide +kernel) (by decide) (by decide) hs
/-- abs(x) -/
def absD : D → Sto → R D
  | .int i, st => .ok (.int (if i < 0 then -i else i)) st
  | _, _ => .bad
theorem rule_abs : ruleD X.K ca (relV X.K) absD (fun xs H Q => ∃ i, xs = [.int i] ∧ Q (.int (if i < 0 then -i else i)) H) := by
  intro α st α0 N0 H0 H W d v Q L xt r p
  cases r <;> try exact False.elim p
  exact ⟨_, rfl, p α H _ xt L (.int _)⟩
theorem qe_abs (ha : QE X ca W a ea) (hg : Gl X "abs") (hm : X.mg "abs" = none) (hs : starEach [a] X.env = (false, eval a X.env) :: starEach [] X.env := by rfl) : QE X ca W (.Call (.Name "abs" p0) [a] [] pos) (cB1 absD ea) :=
  qb1 rule_abs call_abs ha hg hm (by decide +kernel) (by decide) (by decide) hs
end
end PM

set_option Elab.async false
set_option linter.all false
set_option maxRecDepth 100000
set_option maxHeartbeats 4000000
/-! PM4: subscripts, slices, attributes, in, more built-ins. -/
namespace PM
open PySem PySem.Spec PyProof.Rows L2

/-! ### dicts as lists of pairs -/
section
variable {κ : Type} [DecidableEq κ]
def valD (kvs : List (κ × D)) (k : κ) : Option D := (kvs.find? fun kv => decide (kv.1 = k)).map (·.2)
def putD (kvs : List (κ × D)) (k : κ) (v : D) : List (κ × D) :=
  if kvs.any (fun kv => decide (kv.1 = k)) then kvs.map fun kv => if kv.1 = k then (kv.1, v) else kv else kvs ++ [(k, v)]
def dropD (kvs : List (κ × D)) (k : κ) : List (κ × D) := kvs.filter fun kv => decide (kv.1 ≠ k)
variable {K : Frag} {α : Nat → Addr} {N : Nat} {H : Hp}
theorem RKs.val (k : κ) : ∀ {d : List (κ × D)} {v : List (κ × V)}, RKs K α N H d v → (valD d k = none ∧ valV v k = none) ∨ ∃ x y, valD d k = some x ∧ valV v k = some y ∧ RV K α N H x y
  | _, _, .nil => .inl ⟨rfl, rfl⟩
  | _, _, .cons (k := k') (d := d) (v := v) (xs := xs) (vs := vs) h r => by
    by_cases e : k' = k
    · refine .inr ⟨d, v, ?_, ?_, h⟩
      · simp [valD, List.find?_cons, e]
      · simp [valV, List.find?_cons, e]
    · have e1 : valD ((k', d) :: xs) k = valD xs k := by simp [valD, List.find?_cons, e]
      have e2 : valV ((k', v) :: vs) k = valV vs k := by simp [valV, List.find?_cons, e]
      rw [e1, e2]
      exact RKs.val k r
theorem RKs.any (k : κ) : ∀ {d : List (κ × D)} {v : List (κ × V)}, RKs K α N H d v → (d.any fun kv => decide (kv.1 = k)) = v.any fun kv => decide (kv.1 = k)
  | _, _, .nil => rfl
  | _, _, .cons h r => by rw [List.any_cons, List.any_cons, RKs.any k r]
theorem RKs.append : ∀ {d e : List (κ × D)} {v w : List (κ × V)}, RKs K α N H d v → RKs K α N H e w → RKs K α N H (d ++ e) (v ++ w)
  | _, _, _, _, .nil, s => s
  | _, _, _, _, .cons r t, s => .cons r (RKs.append t s)
theorem RKs.repl (k : κ) {x : D} {y : V} (q : RV K α N H x y) : ∀ {d : List (κ × D)} {v : List (κ × V)}, RKs K α N H d v → RKs K α N H (d.map fun kv => if kv.1 = k then (kv.1, x) else kv) (v.map fun kv => if kv.1 = k then (kv.1, y) else kv)
  | _, _, .nil => .nil
  | _, _, .cons (k := k') h r => by
    rw [List.map_cons, List.map_cons]
    by_cases e : k' = k
    · simp only [e, if_true]; exact .cons q (RKs.repl k q r)
    · simp only [e, if_false]; exact .cons h (RKs.repl k q r)
theorem RKs.put {d : List (κ × D)} {v : List (κ × V)} (r : RKs K α N H d v) (k : κ) {x : D} {y : V} (q : RV K α N H x y) : RKs K α N H (putD d k x) (putK v k y) := by
  unfold putD putK
  rw [r.any k]
  split
  · exact r.repl k q
  · exact r.append (.cons q .nil)
theorem RKs.drop (k : κ) : ∀ {d : List (κ × D)} {v : List (κ × V)}, RKs K α N H d v → RKs K α N H (dropD d k) (dropK v k)
  | _, _, .nil => .nil
  | _, _, .cons (k := k') h r => by
    have ih := RKs.drop k r
    unfold dropD dropK at ih ⊢
    rw [List.filter_cons, List.filter_cons]
    by_cases e : k' = k
    · rw [if_neg (by simp [e]), if_neg (by simp [e])]; exact ih
    · rw [if_pos (by simp [e]), if_pos (by simp [e])]; exact .cons h ih
theorem RKs.keys : ∀ {d : List (κ × D)} {v : List (κ × V)}, RKs K α N H d v → d.map (·.1) = v.map (·.1)
  | _, _, .nil => rfl
  | _, _, .cons _ r => by rw [List.map_cons, List.map_cons, RKs.keys r]
theorem RKs.get {κ : Type} {d : List (κ × D)} {v : List (κ × V)} (r : RKs K α N H d v) {i : Nat} {k : κ} {x : D} (e : d[i]? = some (k, x)) : ∃ y, v[i]? = some (k, y) ∧ RV K α N H x y := by
  induction r generalizing i with
  | nil => simp at e
  | cons h r ih =>
    cases i with
    | zero => simp at e; obtain ⟨rfl, rfl⟩ := e; exact ⟨_, rfl, h⟩
    | succ i =>
      obtain ⟨y, h1, h2⟩ := ih (i := i) (by simpa using e)
      exact ⟨y, by simpa using h1, h2⟩
end
/-- a field of an instance -/
def fldD (fs : List (Str × D)) (f : Str) : Option D := fs.lookup f
def putFD (f : Str) (v : D) : List (Str × D) → List (Str × D)
  | [] => [(f, v)]
  | (g, x) :: r => if g = f then (g, v) :: r else (g, x) :: putFD f v r
section
variable {K : Frag} {α : Nat → Addr} {N : Nat} {H : Hp}
theorem RKs.fld (f : Str) : ∀ {d : List (Str × D)} {v : List (Str × V)}, RKs K α N H d v → (d.lookup f = none ∧ v.lookup f = none) ∨ ∃ x y, d.lookup f = some x ∧ v.lookup f = some y ∧ RV K α N H x y
  | _, _, .nil => .inl ⟨rfl, rfl⟩
  | _, _, .cons (k := k') h r => by
    simp only [List.lookup]
    by_cases e : f = k'
    · simp only [e, beq_self_eq_true]; exact .inr ⟨_, _, rfl, rfl, h⟩
    · have : (f == k') = false := by simpa using e
      simp only [this]
      exact RKs.fld f r
theorem RKs.putF (f : Str) {x : D} {y : V} (q : RV K α N H x y) : ∀ {d : List (Str × D)} {v : List (Str × V)}, RKs K α N H d v → RKs K α N H (putFD f x d) (L2.putF f y v)
  | _, _, .nil => .cons q .nil
  | _, _, .cons (k := k') h r => by
    unfold putFD L2.putF
    split
    · exact .cons q r
    · exact .cons h (RKs.putF f q r)
end

def keyD : D → Option Key
  | .int i => some (.inl i)
  | .str x => some (.inr x)
  | _ => none
theorem keyD_ok {K : Frag} {α : Nat → Addr} {N : Nat} {H : Hp} {d : D} {v : V} {k : Key} (r : RV K α N H d v) (e : keyD d = some k) : v = kV k := by
  cases r <;> simp only [keyD, Option.some.injEq, reduceCtorEq] at e <;> subst e <;> rfl

/-! ### subscripts -/
theorem subTail_of {prog : Program} {w : World} {A : Around} {E : Value → Shared → Prop} {s : Shared} {value slice : Expr} {o i : Value} {T id : String} {Q : Value → Shared → Prop}
    (hl : typeLookup (.type T) "__getitem__" = pure (some (.builtin id))) (hs : subscripted slice false o i = operate [o, i] (getItem o i)) (hT : s.TypeIs o T)
    (h₂ : wpAny (model prog w) A (getItem o i) Q E s) : wpAny (model prog w) A (subscriptTail value slice o i) Q E s := by
  unfold subscriptTail
  refine wpAny_bind ?_
  rw [getitemInPython_of_ne hT.not_modules]
  refine wpAny_bind (wpAny_specialOf hT hl ?_)
  have fin : wpAny (model prog w) A (subscripted slice false o i) (fun r s₃ => wpAny (model prog w) A (letTemporaryGo value o r >>= fun _ => pure r) Q E s₃) E s := by
    rw [hs]
    exact wpAny_operating (wpAny_mono h₂ (fun r s₃ h₃ => wpAny_bind (wpAny_letTemporaryGo (wpAny_pure h₃))) fun _ _ x => x)
  first
    | exact wpAny_pure (wpAny_bind fin)
    | exact wpAny_bind (wpAny_pure (wpAny_bind fin))
    | exact wpAny_bind fin
section
variable {X : Cx} {ca : Nat → Addr} {W : WX} {a b c : Expr} {ea eb ec : E} {pos : Pos} {es : List Expr} {rest : List Expr} {x : Str} {p0 apos cpos : Pos}
theorem ix_dict (hu : X.A.units + 1 < cLine) : IxR X (fun x y H Q => ∃ a v, x = .ref a ∧ DGet H a y (some v) ∧ Q v H) := by
  intro value slice pins s σ H x y v u Q I rx ry ⟨a, z, e, g, q⟩ hs
  subst e
  cases rx
  exact subTail_of PySem.F.slot_dict_getitem.lookup hs (dict_typeIs I g) (d_getItem hu I g ry fun w' s3 I3 rw' => ⟨z, H, I3, rw', q⟩)
def rIxA (X : Cx) : R2 := fun x y H Q => rIx X.K x y H Q ∨ ∃ a v, x = .ref a ∧ DGet H a y (some v) ∧ Q v H
theorem ix_any (hu : X.A.units + 1 < cLine) : IxR X (rIxA X) := ix_seq.or (ix_dict hu)
def atD (xs : List D) (y : D) (st : Sto) : R D := match y with
  | .int i => match atI xs i with
    | some d => .ok d st
    | none => .bad
  | _ => .bad
def atK (kvs : List (Key × D)) (y : D) (st : Sto) : R D := match keyD y with
  | some k => match valD kvs k with
    | some d => .ok d st
    | none => .bad
  | none => .bad
/-- x[y] -/
def getD : D → D → Sto → R D
  | .tup xs, y, st => atD xs y st
  | .con xs, y, st => atD xs y st
  | .str z, .int i, st => if z.length ≤ sizeLine then match atI z.cps.toList i with
    | some c => .ok (.str ⟨#[c]⟩) st
    | none => .bad else .bad
  | .loc n, y, st => match st[n]? with
    | some (.lst xs) => atD xs y st
    | some (.dct kvs) => atK kvs y st
    | some (.fdc kvs) => atK kvs y st
    | _ => .bad
  | _, _, _ => .bad
theorem atI_rel {K : Frag} {α : Nat → Addr} {N : Nat} {H : Hp} {d : List D} {v : List V} {i : Int} {x : D} (r : RVs K α N H d v) (e : atI d i = some x) : ∃ y, atI v i = some y ∧ RV K α N H x y := by
  unfold atI at e ⊢
  rw [← r.length]
  cases q : ixN d.length i with
  | none => rw [q] at e; cases e
  | some j =>
    rw [q] at e
    exact r.get e
theorem d_get (hu : X.A.units + 1 < cLine) : IxR X (rD2 X.K ca getD) := by
  intro value slice pins s σ H x y v u Q I rx ry ⟨α, st, α0, N0, H0, dx, dy, W, L, xt, r1, r2, p⟩ hs
  refine ix_any hu value slice pins s σ H x y v u Q I rx ry ?_ hs
  have at_ : ∀ {xs : List D} {vs : List V}, RVs X.K α st.length H xs vs → Post X.K ca (relV X.K) α0 N0 H0 W Q (atD xs dy st) → ∃ i z, y = .int i ∧ atI vs i = some z ∧ Q z H := fun {xs vs} r p => by
    unfold atD at p
    cases r2 <;> try exact False.elim p
    rename_i i _
    dsimp only at p
    cases e : atI xs i with
    | none => rw [e] at p; exact p.elim
    | some d =>
      rw [e] at p
      obtain ⟨z, h1, h2⟩ := atI_rel r e
      exact ⟨i, z, rfl, h1, p α H z xt L h2⟩
  have atk : ∀ {kvs : List (Key × D)} {ks : List (Key × V)}, RKs X.K α st.length H kvs ks → Post X.K ca (relV X.K) α0 N0 H0 W Q (atK kvs dy st) → ∃ k z, y = kV k ∧ valV ks k = some z ∧ Q z H := fun {kvs ks} r p => by
    unfold atK at p
    cases e : keyD dy with
    | none => rw [e] at p; exact p.elim
    | some k =>
      rw [e] at p
      dsimp only at p
      rcases r.val k with ⟨e1, _⟩ | ⟨x1, y1, e1, e2, r3⟩
      · rw [e1] at p; exact p.elim
      · rw [e1] at p
        exact ⟨k, y1, keyD_ok r2 e, e2, p α H _ xt L r3⟩
  cases r1 with
  | tup h r =>
    obtain ⟨i, z, e, h1, q⟩ := at_ r p
    exact .inl (.inr (.inl ⟨_, _, _, _, rfl, e, h, h1, q⟩))
  | con h r =>
    obtain ⟨i, z, e, h1, q⟩ := at_ r p
    exact .inl (.inl ⟨_, _, _, _, rfl, e, h.sq, h1, q⟩)
  | str z =>
    cases r2 <;> try exact False.elim p
    rename_i i
    simp only [getD] at p
    split at p
    · rename_i hz
      cases e : atI z.cps.toList i with
      | none => rw [e] at p; exact p.elim
      | some c =>
        rw [e] at p
        exact .inl (.inr (.inr ⟨_, _, _, rfl, rfl, hz, e, p α H _ xt L (.str _)⟩))
    · exact p.elim
  | loc hn =>
    simp only [getD] at p
    split at p
    · rename_i xs e
      obtain ⟨vs, h1, q1⟩ := lk_lst L e
      obtain ⟨i, z, e, h2, q⟩ := at_ q1 p
      exact .inl (.inl ⟨_, _, _, _, rfl, e, .inl (.inl h1), h2, q⟩)
    · rename_i xs e
      obtain ⟨ho, h1, q1⟩ := L.at_ _ _ e
      cases q1 with
      | dct q1 =>
        obtain ⟨k, z, e, h2, q⟩ := atk q1 p
        exact .inr ⟨_, z, rfl, .inl ⟨_, k, .inl h1, e, h2.symm⟩, q⟩
    · rename_i xs e
      obtain ⟨ho, h1, q1⟩ := L.at_ _ _ e
      cases q1 with
      | fdc q1 =>
        obtain ⟨k, z, e, h2, q⟩ := atk q1 p
        exact .inr ⟨_, z, rfl, .inl ⟨_, k, .inr ⟨_, h1⟩, e, h2.symm⟩, q⟩
    · exact p.elim
  | _ => exact False.elim p
theorem qe_ix (hu : X.A.units + 1 < cLine) (ha : QE X ca W a ea) (hb : QE X ca W b eb) (hs : PlainIx b := by intro _ _; rfl) : QE X ca W (.Subscript a b pos) (cOp2 getD ea eb) :=
  peW (pe_ix (d_get hu) ha hb hs) fun σ H Q h => tG_op2 h
/-- a list in passing, at an index -/
def cIxL (e : EL) (b : E) : E := fun ρ st => (e ρ st).bind fun xs st => (b ρ st).bind fun y st => atD xs y st
theorem qe_ixL {e : EL} (ha : QL X ca W a e) (hb : QE X ca W b eb) (hs : PlainIx b := by intro _ _; rfl) : QE X ca W (.Subscript a b pos) (cIxL e eb) :=
  peW (pe_ix ix_seq ha hb hs) fun σ H Q ⟨α, st, ρ, at0, p⟩ => tG_next at0 .refl p fun α1 st1 xs v H1 a1 _ x1 r1 p1 => tG_next a1 x1 p1 fun α2 st2 y u H2 a2 x2 xb r2 p2 => by
    obtain ⟨q, vs, rfl, h0, h1, r, hn⟩ := r1
    have h2 := x2.keep q _ h1 hn
    have r' := RVs.mono x2.toGr r
    unfold atD at p2
    cases r2 <;> try exact False.elim p2
    rename_i i
    dsimp only at p2
    cases e : atI xs i with
    | none => rw [e] at p2; exact p2.elim
    | some d =>
      rw [e] at p2
      obtain ⟨z, h3, h4⟩ := atI_rel r' e
      exact .inl ⟨_, _, _, _, rfl, rfl, .inl (.inl h2), h3, p2 α2 H2 z xb a2.lk h4⟩

/-! ### slices -/
def cutD (xs : List D) (lo hi : Option Int) : List D := (xs.drop (HT.sIx xs.length 0 lo)).take (HT.sIx xs.length xs.length hi - HT.sIx xs.length 0 lo)
theorem RVs.cut {K : Frag} {α : Nat → Addr} {N : Nat} {H : Hp} {d : List D} {v : List V} (r : RVs K α N H d v) (lo hi : Option Int) : RVs K α N H (cutD d lo hi) (cutV v lo hi) := by
  unfold cutD cutV
  rw [r.length]
  exact (r.drop _).take _
abbrev EO := Env → Sto → R (Option Int)
def relO : Rel (Option Int) (Option Int) := fun _ _ _ _ b c => b = c
structure QO (X : Cx) (ca : Nat → Addr) (W : WX) (e : Option Expr) (t : EO) : Prop where
  po : PO X e (tG X.K ca relO W t)
def cNoPart : EO := fun _ st => .ok none st
def cPart (e : E) : EO := fun ρ st => (e ρ st).bind fun x st => match x with
  | .int i => .ok (some i) st
  | _ => .bad
theorem poW {X : Cx} {x : Option Expr} {t t' : TO} (p : PO X x t) (h : ∀ σ H Q, t' σ H Q → t σ H Q) : PO X x t' := ⟨fun pins s σ H Q I q => p.run pins s σ H Q I (h σ H Q q)⟩
theorem qo_none : QO X ca W none cNoPart := ⟨poW po_none fun σ H Q ⟨α, st, ρ, a, p⟩ => p α H none .refl a.lk rfl⟩
theorem qo_some (h : QE X ca W a ea) : QO X ca W (some a) (cPart ea) :=
  ⟨poW (po_some h) fun σ H Q ⟨α, st, ρ, at0, p⟩ => tG_next at0 .refl p fun α1 st1 d v H1 a1 _ x1 r1 p1 => by
    cases r1 <;> try exact False.elim p1
    exact ⟨_, rfl, p1 α1 H1 _ x1 a1.lk rfl⟩⟩
/-- x[lo:hi] -/
def sliceD (x : D) (lo hi : Option Int) (st : Sto) : R D := match x with
  | .tup xs => .ok (.tup (cutD xs lo hi)) st
  | .con xs => .ok (.loc st.length) (st ++ [.lst (cutD xs lo hi)])
  | .str z => if z.length ≤ sizeLine then .ok (.str (cutS z lo hi)) st else .bad
  | .loc n => match st[n]? with
    | some (.lst xs) => .ok (.loc st.length) (st ++ [.lst (cutD xs lo hi)])
    | _ => .bad
  | _ => .bad
def cSlice (e : E) (lo hi : EO) : E := fun ρ st => (e ρ st).bind fun x st => (lo ρ st).bind fun l st => (hi ρ st).bind fun h st => sliceD x l h st
theorem cut_whole (xs : List V) (lo hi : Option Int) (h : HT.sIx xs.length 0 lo = 0 ∧ HT.sIx xs.length xs.length hi = xs.length) : cutV xs lo hi = xs := by
  unfold cutV
  rw [h.1, h.2]
  simp
theorem cutD_whole (xs : List D) (lo hi : Option Int) (h : HT.sIx xs.length 0 lo = 0 ∧ HT.sIx xs.length xs.length hi = xs.length) : cutD xs lo hi = xs := by
  unfold cutD
  rw [h.1, h.2]
  simp
def rSlAny (X : Cx) : V → Option Int → Option Int → Hp → VK → Prop := fun x lo hi H Q => rSlA X.K x lo hi H Q ∨ rSlL X.K x lo hi H Q ∨ rSlS x lo hi H Q
theorem sl_any : SlR X (rSlAny X) := sl_tupA.or (sl_list.or sl_str)
theorem qe_slice {lo hi : Option Expr} {tl th : EO} {p2 : Pos} (ha : QE X ca W a ea) (hl : QO X ca W lo tl) (hh : QO X ca W hi th) : QE X ca W (.Subscript a (.Slice lo hi none p2) pos) (cSlice ea tl th) :=
  peW (pe_slice sl_any ha hl.po hh.po) fun σ H Q ⟨α, st, ρ, at0, p⟩ => tG_next at0 .refl p fun α1 st1 d v H1 a1 _ x1 r1 p1 => tG_next a1 x1 p1 fun α2 st2 l l' H2 a2 x2 xb2 e2 p2 => tG_next a2 xb2 p2 fun α3 st3 h h' H3 a3 x3 xb3 e3 p3 => by
    cases e2
    cases e3
    have r3 := RV.mono (x2.trans x3).toGr r1
    cases r3 <;> try exact False.elim p3
    · rename_i z
      simp only [sliceD] at p3
      split at p3
      · rename_i hz
        exact .inr (.inr ⟨_, rfl, hz, p3 α3 H3 _ xb3 a3.lk (.str _)⟩)
      · exact p3.elim
    · rename_i h0 r0
      refine .inl ⟨_, _, rfl, h0, fun hw => ?_, fun _ q hq => fin_tup p3 xb3 a3.lk (r0.cut _ _) hq⟩
      rw [← r0.length] at hw
      have p4 : Post X.K ca (relV X.K) α st.length H _ Q (.ok (.tup (cutD _ l h)) st3) := p3
      rw [cutD_whole _ _ _ hw] at p4
      exact p4 α3 H3 _ xb3 a3.lk (.tup h0 r0)
    · rename_i h0 r0
      exact .inr (.inl ⟨_, _, rfl, h0.sq, fun q hq => fin_lst p3 xb3 a3.lk (r0.cut _ _) hq⟩)
    · simp only [sliceD] at p3
      split at p3
      · rename_i xs e
        obtain ⟨vs, h1, q1⟩ := lk_lst a3.lk e
        exact .inr (.inl ⟨_, _, rfl, .inl (.inl h1), fun q hq => fin_lst p3 xb3 a3.lk (q1.cut _ _) hq⟩)
      · exact p3.elim

/-! ### attributes -/
/-- what is known of the classes cs: instances of them hold the name f themselves -/
def Flds (X : Cx) (ca : Nat → Addr) (cs : List Nat) (f : Str) : Prop := ∀ c ∈ cs, Cls X.K (ca c) ∧ NoAttr X.K (ca c) f
def fldOf (cs : List Nat) (f : Str) : D → Sto → R D
  | .loc n, st => match st[n]? with
    | some (.ins c fs) => if c ∈ cs then match fs.lookup f with
      | some d => .ok d st
      | none => .bad else .bad
    | _ => .bad
  | _, _ => .bad
theorem lk_ins {K : Frag} {α : Nat → Addr} {st : Sto} {H : Hp} {n c : Nat} {fs : List (Str × D)} (L : Lk K ca α st H) (h : st[n]? = some (.ins c fs)) : ∃ dx gs, H (α n) = some (.ins (ca c) dx gs) ∧ RKs K α st.length H fs gs := by
  obtain ⟨ho, h1, h2⟩ := L.at_ n _ h
  cases h2 with
  | ins r => exact ⟨_, _, h1, r⟩
theorem qe_fld {cs : List Nat} {f : Str} (hc : Flds X ca cs f) (ha : QE X ca W a ea) (hb : attributeBase a f X.env (eval a X.env) = eval a X.env := by rfl) : QE X ca W (.Attribute a f pos) (cB1 (fldOf cs f) ea) :=
  peW (pe_fld ha hb) fun σ H Q ⟨α, st, ρ, at0, p⟩ => tG_next at0 .refl p fun α1 st1 d v H1 a1 _ x1 r1 p1 => by
    cases r1 <;> try exact False.elim p1
    simp only [fldOf] at p1
    split at p1 <;> try exact p1.elim
    rename_i c fs e
    split at p1 <;> try exact p1.elim
    rename_i hcs
    obtain ⟨dx, gs, h1, q1⟩ := lk_ins a1.lk e
    obtain ⟨k1, k2⟩ := hc c hcs
    rcases q1.fld f with ⟨e1, _⟩ | ⟨x2, y2, e1, e2, r2⟩
    · rw [e1] at p1; exact p1.elim
    · rw [e1] at p1
      exact ⟨_, _, _, _, _, rfl, h1, k1, k2, e2, p1 α1 H1 _ x1 a1.lk r2⟩

/-! ### lists put together -/
/-- a list of the store, or one in passing, at the moment -/
def relM (K : Frag) : Rel (List D) V := fun _ α N H xs v => ∃ p vs, v = .ref p ∧ H p = some (.lst vs) ∧ RVs K α N H xs vs
def QM (X : Cx) (ca : Nat → Addr) (W : WX) (x : Expr) (e : EL) : Prop := PE X x (tG X.K ca (relM X.K) W e)
def lstD : D → Sto → R (List D)
  | .loc n, st => match st[n]? with
    | some (.lst xs) => .ok xs st
    | _ => .bad
  | _, _ => .bad
def cLs (e : E) : EL := fun ρ st => (e ρ st).bind lstD
theorem qm_e (h : QE X ca W a ea) : QM X ca W a (cLs ea) :=
  peW h fun σ H Q ⟨α, st, ρ, at0, p⟩ => tG_next at0 .refl p fun α1 st1 d v H1 a1 _ x1 r1 p1 => by
    cases r1 <;> try exact False.elim p1
    simp only [lstD] at p1
    split at p1 <;> try exact p1.elim
    rename_i xs e
    obtain ⟨vs, h1, q1⟩ := lk_lst a1.lk e
    exact p1 α1 H1 _ x1 a1.lk ⟨_, _, rfl, h1, q1⟩
theorem qm_l {e : EL} (h : QL X ca W a e) : QM X ca W a e :=
  peW h fun σ H Q ⟨α, st, ρ, at0, p⟩ => by
    refine ⟨α, st, ρ, at0, ?_⟩
    revert p
    cases e ρ st with
    | ok xs st1 =>
      intro p α1 H1 v x1 L r
      obtain ⟨q, vs, rfl, h0, h1, r, hn⟩ := r
      exact p α1 H1 _ x1 L ⟨q, vs, rfl, h1, r⟩
    | exc c fs st1 => exact fun p => p
    | bad => exact fun p => p
def catL (xs ys : List D) (st : Sto) : R (List D) := if xs.length + ys.length ≤ sizeLine then .ok (xs ++ ys) st else .bad
/-- a list in passing + a list -/
def cCatL (a b : EL) : EL := fun ρ st => (a ρ st).bind fun xs st => (b ρ st).bind fun ys st => catL xs ys st
theorem ql_catL {e1 e2 : EL} (ha : QL X ca W a e1) (hb : QM X ca W b e2) : QL X ca W (.BinOp a .Add b pos) (cCatL e1 e2) :=
  peW (pe_op op_cat ha hb) fun σ H Q ⟨α, st, ρ, at0, p⟩ => tG_next at0 .refl p fun α1 st1 xs v H1 a1 _ x1 r1 p1 => tG_next a1 x1 p1 fun α2 st2 ys u H2 a2 x2 xb r2 p2 => by
    obtain ⟨q, vs, rfl, h0, h1, r, hn⟩ := r1
    obtain ⟨q2, ws, rfl, h3, r3⟩ := r2
    have h2 := x2.keep q _ h1 hn
    have r' := RVs.mono x2.toGr r
    unfold catL at p2
    split at p2 <;> try exact p2.elim
    rename_i hz
    rw [r'.length, r3.length] at hz
    exact ⟨_, _, _, _, rfl, rfl, h2, h3, hz, fun q hq => fin_new p2 xb a2.lk (r'.append r3) hq⟩
/-- a list of the store + a list -/
def cCatE (a : E) (b : EL) : EL := fun ρ st => (a ρ st).bind fun x st => (b ρ st).bind fun ys st => (lstD x st).bind fun xs st => catL xs ys st
theorem ql_catE {e2 : EL} (ha : QE X ca W a ea) (hb : QM X ca W b e2) : QL X ca W (.BinOp a .Add b pos) (cCatE ea e2) :=
  peW (pe_op op_cat ha hb) fun σ H Q ⟨α, st, ρ, at0, p⟩ => tG_next at0 .refl p fun α1 st1 d v H1 a1 _ x1 r1 p1 => tG_next a1 x1 p1 fun α2 st2 ys u H2 a2 x2 xb r2 p2 => by
    obtain ⟨q2, ws, rfl, h3, r3⟩ := r2
    have r1' := RV.mono x2.toGr r1
    cases r1' <;> try exact False.elim p2
    simp only [lstD] at p2
    split at p2 <;> try exact p2.elim
    rename_i xs e
    obtain ⟨vs, h1, q1⟩ := lk_lst a2.lk e
    simp only [R.bind_ok, catL] at p2
    split at p2 <;> try exact p2.elim
    rename_i hz
    rw [q1.length, r3.length] at hz
    exact ⟨_, _, _, _, rfl, rfl, h1, h3, hz, fun q hq => fin_new p2 xb a2.lk (q1.append r3) hq⟩
/-- a list in passing * n -/
def cRepL (a : EL) (b : E) : EL := fun ρ st => (a ρ st).bind fun xs st => (b ρ st).bind fun y st => match y with
  | .int k => if -(2 ^ 63) ≤ k ∧ k < 2 ^ 63 ∧ xs.length * k.toNat ≤ sizeLine then .ok (List.replicate k.toNat xs).flatten st else .bad
  | _ => .bad
theorem ql_rep {e1 : EL} (ha : QL X ca W a e1) (hb : QE X ca W b eb) : QL X ca W (.BinOp a .Mult b pos) (cRepL e1 eb) :=
  peW (pe_op op_rep ha hb) fun σ H Q ⟨α, st, ρ, at0, p⟩ => tG_next at0 .refl p fun α1 st1 xs v H1 a1 _ x1 r1 p1 => tG_next a1 x1 p1 fun α2 st2 y u H2 a2 x2 xb r2 p2 => by
    obtain ⟨q, vs, rfl, h0, h1, r, hn⟩ := r1
    have h2 := x2.keep q _ h1 hn
    have r' := RVs.mono x2.toGr r
    cases r2 <;> try exact False.elim p2
    rename_i k
    dsimp only at p2
    split at p2 <;> try exact p2.elim
    rename_i hz
    rw [r'.length] at hz
    exact ⟨_, _, _, rfl, rfl, h2, hz.1, hz.2.1, hz.2.2, fun q hq => fin_new p2 xb a2.lk (r'.rep _) hq⟩

/-! ### isinstance -/
inductive Ty where | non | bool | int | str | tuple | list | dict
  deriving DecidableEq
def Ty.name : Ty → String
  | .non => "NoneType" | .bool => "bool" | .int => "int" | .str => "str" | .tuple => "tuple" | .list => "list" | .dict => "dict"
def Ty.sub : Ty → Ty → Bool
  | .non, .non => true | .bool, .bool => true | .bool, .int => true | .int, .int => true | .str, .str => true | .tuple, .tuple => true | .list, .list => true | .dict, .dict => true
  | _, _ => false
theorem Ty.kit (a b : Ty) (hb : b ≠ .non) : kitB a.name b.name = some (Ty.sub a b) := by
  cases a <;> cases b <;> first | exact absurd rfl hb | decide +kernel
def tyD : D → Sto → Option Ty
  | .non, _ => some .non | .bl _, _ => some .bool | .int _, _ => some .int | .str _, _ => some .str | .tup _, _ => some .tuple | .con _, _ => some .list
  | .loc n, st => match st[n]? with
    | some (.lst _) => some .list
    | some (.dct _) => some .dict
    | some (.dtt _) => some .dict
    | some (.fdc _) => some .dict
    | _ => none
theorem tyD_ok {K : Frag} {α : Nat → Addr} {st : Sto} {H : Hp} {d : D} {v : V} {t : Ty} (L : Lk K ca α st H) (r : RV K α st.length H d v) (e : tyD d st = some t) : TyX K H v (.type t.name) := by
  cases r with
  | non => cases e; exact .base .non
  | bl b => cases e; exact .base (.bl b)
  | int i => cases e; exact .base (.int i)
  | str x => cases e; exact .base (.str x)
  | tup h r =>
    cases e
    rcases h with (h | ⟨o, h⟩) | ⟨o, its, n, h1, h2, _⟩
    · exact .base (.tup h)
    · exact .fTuple h
    · exact .kTuple h1 h2
  | con h r =>
    cases e
    rcases h with ⟨o, h⟩ | ⟨o, its, n, h1, h2, _⟩
    · exact .base (.frz h)
    · exact .kList h1 h2
  | loc hn =>
    simp only [tyD] at e
    split at e <;> try cases e
    · rename_i xs q
      obtain ⟨ho, h1, q1⟩ := L.at_ _ _ q
      cases q1
      exact .base (.lst h1)
    · rename_i xs q
      obtain ⟨ho, h1, q1⟩ := L.at_ _ _ q
      cases q1
      exact .base (.dK h1)
    · rename_i xs q
      obtain ⟨ho, h1, q1⟩ := L.at_ _ _ q
      cases q1
      exact .base (.dT h1)
    · rename_i xs q
      obtain ⟨ho, h1, q1⟩ := L.at_ _ _ q
      cases q1
      exact .fDict h1
def isiD (c : Ty) : D → Sto → R D := fun d st => match tyD d st with
  | some t => .ok (.bl (Ty.sub t c)) st
  | none => .bad
theorem qe_isi {t : Ty} {tn : Str} {p3 : Pos} (ht : t ≠ .non) (ha : QE X ca W a ea) (hg : Gl X "isinstance") (hm : X.mg "isinstance" = none) (hg2 : Gl X tn) (hm2 : X.mg tn = none) (hv : bootBuiltins tn = some (.type t.name))
    (hn : tn ≠ "__name__" := by decide) (hdb : (tn == ("__debug__" : Str)) = false := by decide)
    (hs : starEach (a :: [.Name tn p3]) X.env = (false, eval a X.env) :: starEach [.Name tn p3] X.env := by rfl) :
    QE X ca W (.Call (.Name "isinstance" p0) [a, .Name tn p3] [] pos) (cB1 (isiD t) ea) :=
  peW (pe_callB call_isi hg hm (by decide +kernel) (pa_cons ha (pa_cons (pe_bltn (v := .ty t.name) hg2 hm2 hv rfl hn hdb) pa_nil (by rfl)) hs) (by decide) (by decide) hs (by rfl)) fun σ H Q ⟨α, st, ρ, at0, p⟩ => tG_next at0 .refl p fun α1 st1 d v H1 a1 _ x1 r1 p1 => by
    unfold isiD at p1
    cases e : tyD d st1 with
    | none => rw [e] at p1; exact p1.elim
    | some t' =>
      rw [e] at p1
      exact ⟨v, .ty t.name, .type t'.name, .type t.name, Ty.sub t' t, rfl, .ty _, tyD_ok a1.lk r1 e, kit_ty (Ty.kit t' t ht), p1 α1 H1 _ x1 a1.lk (.bl _)⟩

/-! ### all, any, sum, sorted, min, max -/
def boolsD : List D → Option (List Bool)
  | [] => some []
  | .bl b :: r => (boolsD r).map (b :: ·)
  | _ :: _ => none
theorem boolsD_ok {K : Frag} {α : Nat → Addr} {N : Nat} {H : Hp} : ∀ {xs : List D} {vs : List V} {bs : List Bool}, RVs K α N H xs vs → boolsD xs = some bs → vs = bs.map V.bl
  | [], _, _, .nil, e => by simp only [boolsD, Option.some.injEq] at e; subst e; rfl
  | d :: xs, _, bs, .cons h r, e => by
    cases h <;> simp only [boolsD, reduceCtorEq] at e
    obtain ⟨cs, h1, h2⟩ := Option.map_eq_some_iff.mp e
    subst h2
    rw [boolsD_ok r h1]; rfl
def intsD : List D → Option (List Int)
  | [] => some []
  | .int b :: r => (intsD r).map (b :: ·)
  | _ :: _ => none
theorem intsD_ok {K : Frag} {α : Nat → Addr} {N : Nat} {H : Hp} : ∀ {xs : List D} {vs : List V} {bs : List Int}, RVs K α N H xs vs → intsD xs = some bs → vs = bs.map V.int
  | [], _, _, .nil, e => by simp only [intsD, Option.some.injEq] at e; subst e; rfl
  | d :: xs, _, bs, .cons h r, e => by
    cases h <;> simp only [intsD, reduceCtorEq] at e
    obtain ⟨cs, h1, h2⟩ := Option.map_eq_some_iff.mp e
    subst h2
    rw [intsD_ok r h1]; rfl
theorem ints_rvs {K : Frag} {α : Nat → Addr} {N : Nat} {H : Hp} : ∀ ns : List Int, RVs K α N H (ns.map D.int) (ns.map V.int)
  | [] => .nil
  | n :: ns => .cons (.int n) (ints_rvs ns)
/-- a rule for a call of one list -/
def ruleM {β : Type} (K : Frag) (ca : Nat → Addr) (rel : Rel β V) (f : List D → Sto → R β) (r : List V → Hp → VK → Prop) : Prop := ∀ α st α0 N0 H0 H W xs p vs (Q : VK), Lk K ca α st H → Xt K α0 N0 H0 α st.length H → H p = some (.lst vs) → RVs K α st.length H xs vs → Post K ca rel α0 N0 H0 W Q (f xs st) → r [.ref p] H Q
theorem qbM {β : Type} {rel : Rel β V} {f : List D → Sto → R β} {id : String} {e : EL} {r : List V → Hp → VK → Prop} (rule : ruleM X.K ca rel f r) (hc : CallR X (.builtin id) r) (ha : QM X ca W a e) (hg : Gl X x) (hm : X.mg x = none) (hv : bootBuiltins x = some (.builtin id)) (hn : x ≠ "__name__" := by decide) (hdb : (x == ("__debug__" : Str)) = false := by decide)
    (hs : starEach [a] X.env = (false, eval a X.env) :: starEach [] X.env := by rfl) : PE X (.Call (.Name x p0) [a] [] pos) (tG X.K ca rel W (cS1 f e)) :=
  peW (pe_callB hc hg hm hv (pa1 ha hs) hn hdb hs (by rfl)) fun σ H Q ⟨α, st, ρ, a, p⟩ => tG_next a .refl p fun α1 st1 d v H1 a1 _ x1 ⟨q, vs, e, h, r1⟩ p1 => by
    subst e
    exact rule _ _ _ _ _ _ _ _ _ _ _ a1.lk x1 h r1 p1
def allS : List D → Sto → R D := fun xs st => match boolsD xs with
  | some bs => .ok (.bl (bs.all id)) st
  | none => .bad
def anyS : List D → Sto → R D := fun xs st => match boolsD xs with
  | some bs => .ok (.bl (bs.any id)) st
  | none => .bad
def sumS : List D → Sto → R D := fun xs st => match intsD xs with
  | some ns => .ok (.int ns.sum) st
  | none => .bad
theorem qe_all {e : EL} (hc : X.calm = true) (ha : QM X ca W a e) (hg : Gl X "all") (hm : X.mg "all" = none) (hs : starEach [a] X.env = (false, eval a X.env) :: starEach [] X.env := by rfl) : QE X ca W (.Call (.Name "all" p0) [a] [] pos) (cS1 allS e) :=
  qbM (fun α st α0 N0 H0 H W xs p vs Q L xt h r q => by
    unfold allS at q
    cases e : boolsD xs with
    | none => rw [e] at q; exact q.elim
    | some bs =>
      rw [e] at q
      have ev := boolsD_ok r e
      subst ev
      exact ⟨p, bs, rfl, .inl (.inl h), q α H _ xt L (.bl _)⟩) (cr_all hc) ha hg hm (by decide +kernel) (by decide) (by decide) hs
theorem qe_any {e : EL} (hc : X.calm = true) (ha : QM X ca W a e) (hg : Gl X "any") (hm : X.mg "any" = none) (hs : starEach [a] X.env = (false, eval a X.env) :: starEach [] X.env := by rfl) : QE X ca W (.Call (.Name "any" p0) [a] [] pos) (cS1 anyS e) :=
  qbM (fun α st α0 N0 H0 H W xs p vs Q L xt h r q => by
    unfold anyS at q
    cases e : boolsD xs with
    | none => rw [e] at q; exact q.elim
    | some bs =>
      rw [e] at q
      have ev := boolsD_ok r e
      subst ev
      exact ⟨p, bs, rfl, .inl (.inl h), q α H _ xt L (.bl _)⟩) (cr_any hc) ha hg hm (by decide +kernel) (by decide) (by decide) hs
theorem qe_sum {e : EL} (hc : X.calm = true) (ha : QM X ca W a e) (hg : Gl X "sum") (hm : X.mg "sum" = none) (hs : starEach [a] X.env = (false, eval a X.env) :: starEach [] X.env := by rfl) : QE X ca W (.Call (.Name "sum" p0) [a] [] pos) (cS1 sumS e) :=
  qbM (fun α st α0 N0 H0 H W xs p vs Q L xt h r q => by
    unfold sumS at q
    cases e : intsD xs with
    | none => rw [e] at q; exact q.elim
    | some bs =>
      rw [e] at q
      have ev := intsD_ok r e
      subst ev
      exact ⟨p, bs, rfl, .inl (.inl h), q α H _ xt L (.int _)⟩) (cr_sum hc) ha hg hm (by decide +kernel) (by decide) (by decide) hs
/-- sorted ints -/
def sortI (ns : List Int) : List Int := ns.mergeSort fun a b => decide (a ≤ b)
theorem sortI_uniq {ns ms : List Int} (hp : ms.Perm ns) (hs : ms.Pairwise (· ≤ ·)) : ms = sortI ns := by
  have h1 : (sortI ns).Pairwise (fun a b => decide (a ≤ b) = true) := List.pairwise_mergeSort (le := fun a b => decide (a ≤ b)) (by intro a b c; simp only [decide_eq_true_eq]; omega) (by intro a b; simp only [Bool.or_eq_true, decide_eq_true_eq]; omega) ns
  have h1' : (sortI ns).Pairwise (· ≤ ·) := h1.imp fun h => of_decide_eq_true h
  have h2 : (sortI ns).Perm ns := List.mergeSort_perm ns _
  exact (hp.trans h2.symm).eq_of_pairwise (le := (· ≤ ·)) (fun a b _ _ h h' => Int.le_antisymm h h') hs h1'
def sortedS : List D → Sto → R (List D) := fun xs st => match intsD xs with
  | some ns => .ok ((sortI ns).map D.int) st
  | none => .bad
theorem ql_sorted {e : EL} (ha : QM X ca W a e) (hg : Gl X "sorted") (hm : X.mg "sorted" = none) (hs : starEach [a] X.env = (false, eval a X.env) :: starEach [] X.env := by rfl) : QL X ca W (.Call (.Name "sorted" p0) [a] [] pos) (cS1 sortedS e) :=
  qbM (rel := relL X.K) (fun α st α0 N0 H0 H W xs p vs Q L xt h r q => by
    unfold sortedS at q
    cases e : intsD xs with
    | none => rw [e] at q; exact q.elim
    | some ns =>
      rw [e] at q
      have ev := intsD_ok r e
      subst ev
      refine ⟨p, ns, rfl, .inl (.inl h), fun ms l hp hs hl => ?_⟩
      rw [sortI_uniq hp hs]
      exact fin_new q xt L (ints_rvs _) hl) cr_sortedI ha hg hm (by decide +kernel) (by decide) (by decide) hs
def maxI : List Int → Option Int
  | [] => none
  | n :: ns => some (ns.foldl max n)
def minI : List Int → Option Int
  | [] => none
  | n :: ns => some (ns.foldl min n)
theorem foldl_max_ge : ∀ (ns : List Int) (n : Int), n ≤ ns.foldl max n ∧ ∀ y ∈ ns, y ≤ ns.foldl max n
  | [], n => ⟨Int.le_refl _, fun y h => by simp at h⟩
  | m :: ns, n => by
    obtain ⟨h1, h2⟩ := foldl_max_ge ns (max n m)
    rw [List.foldl_cons]
    refine ⟨by omega, fun y h => ?_⟩
    rcases List.mem_cons.mp h with e | e
    · subst e; omega
    · exact h2 y e
theorem foldl_max_mem : ∀ (ns : List Int) (n : Int), ns.foldl max n = n ∨ ns.foldl max n ∈ ns
  | [], n => .inl rfl
  | m :: ns, n => by
    rw [List.foldl_cons]
    rcases foldl_max_mem ns (max n m) with h | h
    · rw [h]
      by_cases c : n ≤ m
      · right; rw [Int.max_eq_right c]; exact List.mem_cons_self
      · left; exact Int.max_eq_left (by omega)
    · exact .inr (List.mem_cons_of_mem _ h)
theorem foldl_min_le : ∀ (ns : List Int) (n : Int), ns.foldl min n ≤ n ∧ ∀ y ∈ ns, ns.foldl min n ≤ y
  | [], n => ⟨Int.le_refl _, fun y h => by simp at h⟩
  | m :: ns, n => by
    obtain ⟨h1, h2⟩ := foldl_min_le ns (min n m)
    rw [List.foldl_cons]
    refine ⟨by omega, fun y h => ?_⟩
    rcases List.mem_cons.mp h with e | e
    · subst e; omega
    · exact h2 y e
theorem foldl_min_mem : ∀ (ns : List Int) (n : Int), ns.foldl min n = n ∨ ns.foldl min n ∈ ns
  | [], n => .inl rfl
  | m :: ns, n => by
    rw [List.foldl_cons]
    rcases foldl_min_mem ns (min n m) with h | h
    · rw [h]
      by_cases c : n ≤ m
      · left; exact Int.min_eq_left c
      · right; rw [Int.min_eq_right (by omega)]; exact List.mem_cons_self
    · exact .inr (List.mem_cons_of_mem _ h)
def maxS : List D → Sto → R D := fun xs st => match (intsD xs).bind maxI with
  | some m => .ok (.int m) st
  | none => .bad
def minS : List D → Sto → R D := fun xs st => match (intsD xs).bind minI with
  | some m => .ok (.int m) st
  | none => .bad
theorem qe_max {e : EL} (hc : X.calm = true) (ha : QM X ca W a e) (hg : Gl X "max") (hm : X.mg "max" = none) (hs : starEach [a] X.env = (false, eval a X.env) :: starEach [] X.env := by rfl) : QE X ca W (.Call (.Name "max" p0) [a] [] pos) (cS1 maxS e) :=
  qbM (fun α st α0 N0 H0 H W xs p vs Q L xt h r q => by
    unfold maxS at q
    cases e : intsD xs with
    | none => rw [e] at q; exact q.elim
    | some ns =>
      rw [e] at q
      have ev := intsD_ok r e
      subst ev
      cases ns with
      | nil => exact q.elim
      | cons n ns =>
        refine ⟨p, n :: ns, rfl, .inl (.inl h), Nat.succ_pos _, fun m h1 h2 => ?_⟩
        have e1 : m = ns.foldl max n := by
          have g := foldl_max_ge ns n
          have hm1 := foldl_max_mem ns n
          have : ns.foldl max n ≤ m := by
            rcases hm1 with z | z
            · rw [z]; exact h2 n List.mem_cons_self
            · exact h2 _ (List.mem_cons_of_mem _ z)
          rcases List.mem_cons.mp h1 with z | z
          · subst z; omega
          · have := g.2 m z; omega
        subst e1
        exact q α H _ xt L (.int _)) (cr_max hc) ha hg hm (by decide +kernel) (by decide) (by decide) hs
theorem qe_min {e : EL} (hc : X.calm = true) (ha : QM X ca W a e) (hg : Gl X "min") (hm : X.mg "min" = none) (hs : starEach [a] X.env = (false, eval a X.env) :: starEach [] X.env := by rfl) : QE X ca W (.Call (.Name "min" p0) [a] [] pos) (cS1 minS e) :=
  qbM (fun α st α0 N0 H0 H W xs p vs Q L xt h r q => by
    unfold minS at q
    cases e : intsD xs with
    | none => rw [e] at q; exact q.elim
    | some ns =>
      rw [e] at q
      have ev := intsD_ok r e
      subst ev
      cases ns with
      | nil => exact q.elim
      | cons n ns =>
        refine ⟨p, n :: ns, rfl, .inl (.inl h), Nat.succ_pos _, fun m h1 h2 => ?_⟩
        have e1 : m = ns.foldl min n := by
          have g := foldl_min_le ns n
          have hm1 := foldl_min_mem ns n
          have : m ≤ ns.foldl min n := by
            rcases hm1 with z | z
            · rw [z]; exact h2 n List.mem_cons_self
            · exact h2 _ (List.mem_cons_of_mem _ z)
          rcases List.mem_cons.mp h1 with z | z
          · subst z; omega
          · have := g.2 m z; omega
        subst e1
        exact q α H _ xt L (.int _)) (cr_min hc) ha hg hm (by decide +kernel) (by decide) (by decide) hs
/-- max(a, b), min(a, b) -/
def max2D : D → D → Sto → R D
  | .int i, .int j, st => .ok (.int (max i j)) st
  | _, _, _ => .bad
def min2D : D → D → Sto → R D
  | .int i, .int j, st => .ok (.int (min i j)) st
  | _, _, _ => .bad
theorem qe_max2 (hc : X.calm = true) (ha : QE X ca W a ea) (hb : QE X ca W b eb) (hg : Gl X "max") (hm : X.mg "max" = none) (hs : starEach [a, b] X.env = (false, eval a X.env) :: starEach [b] X.env := by rfl) (hs2 : starEach [b] X.env = (false, eval b X.env) :: starEach [] X.env := by rfl)
    (hpl : (backTo pos (starEach [b] X.env)).any (·.1) = false := by rfl) : QE X ca W (.Call (.Name "max" p0) [a, b] [] pos) (cOp2 max2D ea eb) :=
  peW (pe_callB (call_max2 hc) hg hm (by decide +kernel) (pa_cons ha (pa1 hb hs2) hs) (by decide) (by decide) hs hpl) fun σ H Q ⟨α, st, ρ, at0, p⟩ => tG_next at0 .refl p fun α1 st1 d v H1 a1 _ x1 r1 p1 => tG_next a1 x1 p1 fun α2 st2 e u H2 a2 x2 xb r2 p2 => by
    cases r1 <;> cases r2 <;> try exact False.elim p2
    rename_i i j
    refine ⟨i, j, rfl, ?_⟩
    have e : (if j > i then j else i) = max i j := by split <;> omega
    rw [e]
    exact p2 α2 H2 _ xb a2.lk (.int _)
theorem qe_min2 (hc : X.calm = true) (ha : QE X ca W a ea) (hb : QE X ca W b eb) (hg : Gl X "min") (hm : X.mg "min" = none) (hs : starEach [a, b] X.env = (false, eval a X.env) :: starEach [b] X.env := by rfl) (hs2 : starEach [b] X.env = (false, eval b X.env) :: starEach [] X.env := by rfl)
    (hpl : (backTo pos (starEach [b] X.env)).any (·.1) = false := by rfl) : QE X ca W (.Call (.Name "min" p0) [a, b] [] pos) (cOp2 min2D ea eb) :=
  peW (pe_callB (call_min2 hc) hg hm (by decide +kernel) (pa_cons ha (pa1 hb hs2) hs) (by decide) (by decide) hs hpl) fun σ H Q ⟨α, st, ρ, at0, p⟩ => tG_next at0 .refl p fun α1 st1 d v H1 a1 _ x1 r1 p1 => tG_next a1 x1 p1 fun α2 st2 e u H2 a2 x2 xb r2 p2 => by
    cases r1 <;> cases r2 <;> try exact False.elim p2
    rename_i i j
    refine ⟨i, j, rfl, ?_⟩
    have e : (if j < i then j else i) = min i j := by split <;> omega
    rw [e]
    exact p2 α2 H2 _ xb a2.lk (.int _)
end
end PM

set_option Elab.async false
set_option linter.all false
set_option maxRecDepth 100000
set_option maxHeartbeats 4000000
/-! PM5: statements, loops, calls. -/
namespace PM
open PySem PySem.Spec PyProof.Rows L2

/-- how a statement ends -/
inductive F where
  | nx (ρ : Env) (st : Sto) | rt (d : D) (st : Sto) | bk (ρ : Env) (st : Sto) | ct (ρ : Env) (st : Sto) | exc (c : Nat) (fs : List (Str × D)) (ρ : Env) (st : Sto) | bad
abbrev S := Env → Sto → F
def FPost (K : Frag) (ca : Nat → Addr) (α : Nat → Addr) (N : Nat) (H : Hp) (W : WX) (E : Ends) : F → Prop
  | .nx ρ st => ∀ α' H' σ', Xt K α N H α' st.length H' → At K ca α' st H' ρ σ' → E.nx σ' H'
  | .bk ρ st => ∀ α' H' σ', Xt K α N H α' st.length H' → At K ca α' st H' ρ σ' → E.bk σ' H'
  | .ct ρ st => ∀ α' H' σ', Xt K α N H α' st.length H' → At K ca α' st H' ρ σ' → E.ct σ' H'
  | .rt d st => ∀ α' H' v, Xt K α N H α' st.length H' → Lk K ca α' st H' → RV K α' st.length H' d v → E.rt v H'
  | .exc c fs ρ st => ∀ α' H' σ' dd, Xt K α N H α' st.length H' → At K ca α' st H' ρ σ' → XD K α' st.length H' fs dd → W (.ref (ca c)) dd σ' H'
  | .bad => False
def tF (K : Frag) (ca : Nat → Addr) (W : WX) (s : S) : TS := fun E σ H => ∃ α st ρ, At K ca α st H ρ σ ∧ FPost K ca α st.length H W E (s ρ st)
def QF (X : Cx) (ca : Nat → Addr) (W : WX) (x : Stmt) (s : S) : Prop := PS X x (tF X.K ca W s)
def QFs (X : Cx) (ca : Nat → Addr) (W : WX) (x : List Stmt) (s : S) : Prop := PSs X x (tF X.K ca W s)
theorem psW {X : Cx} {x : Stmt} {t t' : TS} (p : PS X x t) (h : ∀ E σ H, t' E σ H → t E σ H) : PS X x t' := ⟨fun pins s σ H E I q => p.run pins s σ H E I (h E σ H q)⟩
theorem pssW {X : Cx} {x : List Stmt} {t t' : TS} (p : PSs X x t) (h : ∀ E σ H, t' E σ H → t E σ H) : PSs X x t' := ⟨fun pins s σ H E I q => p.run pins s σ H E I (h E σ H q)⟩
section
variable {K : Frag} {ca : Nat → Addr} {α α' : Nat → Addr} {N N' : Nat} {H H' : Hp} {W : WX} {E : Ends} {r : F}
theorem FPost.later (x : Xt K α N H α' N' H') (h : FPost K ca α N H W E r) : FPost K ca α' N' H' W E r := by
  cases r with
  | nx ρ st => exact fun a2 H2 s2 x2 A2 => h a2 H2 s2 (x.trans x2) A2
  | bk ρ st => exact fun a2 H2 s2 x2 A2 => h a2 H2 s2 (x.trans x2) A2
  | ct ρ st => exact fun a2 H2 s2 x2 A2 => h a2 H2 s2 (x.trans x2) A2
  | rt d st => exact fun a2 H2 v x2 L2 r2 => h a2 H2 v (x.trans x2) L2 r2
  | exc c fs ρ st => exact fun a2 H2 s2 dd x2 A2 r2 => h a2 H2 s2 dd (x.trans x2) A2 r2
  | bad => exact h
end
/-- an expression, then what follows -/
def fE {β : Type} (r : R β) (ρ : Env) (k : β → Sto → F) : F := match r with
  | .ok b st => k b st
  | .exc c fs st => .exc c fs ρ st
  | .bad => .bad
@[simp] theorem fE_ok {β : Type} (b : β) (st : Sto) (ρ : Env) (k : β → Sto → F) : fE (.ok b st) ρ k = k b st := rfl
@[simp] theorem fE_exc {β : Type} (c : Nat) (fs : List (Str × D)) (st : Sto) (ρ : Env) (k : β → Sto → F) : fE (.exc c fs st : R β) ρ k = .exc c fs ρ st := rfl
@[simp] theorem fE_bad {β : Type} (ρ : Env) (k : β → Sto → F) : fE (.bad : R β) ρ k = .bad := rfl
theorem tF_next {K : Frag} {ca : Nat → Addr} {W : WX} {β γ : Type} {rel : Rel β γ} {e : Env → Sto → R β} {k : β → Sto → F} {σ : L2.St} {H0 H1 : Hp} {E : Ends} {T : γ → Hp → Prop} {α α0 : Nat → Addr} {st : Sto} {N0 : Nat} {ρ : Env}
    (a : At K ca α st H1 ρ σ) (x : Xt K α0 N0 H0 α st.length H1) (p : FPost K ca α0 N0 H0 W E (fE (e ρ st) ρ k))
    (go : ∀ α2 st2 b g H2, At K ca α2 st2 H2 ρ σ → Xt K α st.length H1 α2 st2.length H2 → Xt K α0 N0 H0 α2 st2.length H2 → rel H1 α2 st2.length H2 b g → FPost K ca α0 N0 H0 W E (k b st2) → T g H2) :
    tG K ca rel W e σ H1 T := by
  refine ⟨α, st, ρ, a, ?_⟩
  revert p
  cases e ρ st with
  | ok b st1 => exact fun p α1 H2 g x2 L r => go α1 st1 b g H2 (a.later x2 L) x2 (x.trans x2) r p
  | exc c fs st1 => exact fun p α1 H2 dd x2 L r => p α1 H2 σ dd (x.trans x2) (a.later x2 L) r
  | bad => exact fun p => p

/-- what a body's proof carries: what is let out, and how -/
structure Ok (X : Cx) (W : WX) : Prop where
  tk : Takes X W
  hp : PassesOwn (model X.prog X.w) X.A X.env X.xe
  calm : X.calm = true

section
variable {X : Cx} {ca : Nat → Addr} {W : WX} {a b c : Expr} {ea eb ec : E} {pos : Pos} {es : List Expr} {st st1 : Stmt} {sts sts2 : List Stmt} {s1 s2 : S} {tc : ET}
def sNext : S := fun ρ st => .nx ρ st
def sSeq (a b : S) : S := fun ρ st => match a ρ st with
  | .nx ρ' st' => b ρ' st'
  | .rt d st' => .rt d st'
  | .bk ρ' st' => .bk ρ' st'
  | .ct ρ' st' => .ct ρ' st'
  | .exc c fs ρ' st' => .exc c fs ρ' st'
  | .bad => .bad
theorem qf_nil : QFs X ca W [] sNext := pssW pss_nil fun E σ H ⟨α, st, ρ, a, p⟩ => p α H σ .refl a
theorem qf_cons (h1 : QF X ca W st s1) (h2 : QFs X ca W sts s2) : QFs X ca W (st :: sts) (sSeq s1 s2) :=
  pssW (pss_cons h1 h2) fun E σ H ⟨α, st, ρ, a, p⟩ => by
    refine ⟨α, st, ρ, a, ?_⟩
    unfold sSeq at p
    revert p
    cases s1 ρ st with
    | nx ρ' st' => exact fun p α1 H1 σ1 x1 A1 => ⟨α1, st', ρ', A1, p.later x1⟩
    | rt d st' => exact fun p => p
    | bk ρ' st' => exact fun p => p
    | ct ρ' st' => exact fun p => p
    | exc c fs ρ' st' => exact fun p => p
    | bad => exact fun p => p
theorem qf_one (h1 : QF X ca W st s1) : QFs X ca W [st] s1 := pss_one h1
theorem qf_pass : QF X ca W (.Pass pos) sNext := psW ps_pass fun E σ H ⟨α, st, ρ, a, p⟩ => p α H σ .refl a
def sBreak : S := fun ρ st => .bk ρ st
def sCont : S := fun ρ st => .ct ρ st
theorem qf_break : QF X ca W (.Break pos) sBreak := psW ps_break fun E σ H ⟨α, st, ρ, a, p⟩ => p α H σ .refl a
theorem qf_cont : QF X ca W (.Continue pos) sCont := psW ps_continue fun E σ H ⟨α, st, ρ, a, p⟩ => p α H σ .refl a
def sExp (e : E) : S := fun ρ st => fE (e ρ st) ρ fun _ st => .nx ρ st
theorem qf_exp (he : QE X ca W a ea) (hs : swapsWith a none pos.line X.env = pure false := by rfl) : QF X ca W (.Expr a pos) (sExp ea) :=
  psW (ps_expr he hs) fun E σ H ⟨α, st, ρ, at0, p⟩ => tF_next at0 .refl p fun α1 st1 d v H1 a1 _ x1 r1 p1 => p1 α1 H1 σ x1 a1
def sRet (e : E) : S := fun ρ st => fE (e ρ st) ρ fun d st => .rt d st
theorem qf_ret (he : QE X ca W a ea) : QF X ca W (.Return (some a) pos) (sRet ea) :=
  psW (ps_ret he) fun E σ H ⟨α, st, ρ, at0, p⟩ => tF_next at0 .refl p fun α1 st1 d v H1 a1 _ x1 r1 p1 => p1 α1 H1 v x1 a1.lk r1
def sRetN : S := fun _ st => .rt .non st
theorem qf_retN : QF X ca W (.Return none pos) sRetN := psW ps_retN fun E σ H ⟨α, st, ρ, a, p⟩ => p α H .non .refl a.lk .non
def sIf (t : ET) (a b : S) : S := fun ρ st => fE (t ρ st) ρ fun k st => match k with
  | true => a ρ st
  | false => b ρ st
theorem qf_if (ht : QT X ca W c tc) (ha : QFs X ca W sts s1) (hb : QFs X ca W sts2 s2) : QF X ca W (.If c sts sts2 pos) (sIf tc s1 s2) :=
  psW (ps_if ht ha hb) fun E σ H ⟨α, st, ρ, at0, p⟩ => tF_next at0 .refl p fun α1 st1 k k' H1 a1 _ x1 r1 p1 => by
    cases r1
    cases k with
    | true => rw [if_pos rfl]; exact ⟨α1, st1, ρ, a1, p1.later x1⟩
    | false => rw [if_neg Bool.false_ne_true]; exact ⟨α1, st1, ρ, a1, p1.later x1⟩

/-! ### targets -/
/-- a target: names are set -/
abbrev G := D → Env → Option Env
def tGt (K : Frag) (ca : Nat → Addr) (g : G) : TG := fun v σ H Q => ∃ α st d ρ ρ', At K ca α st H ρ σ ∧ RV K α st.length H d v ∧ g d ρ = some ρ' ∧ ∀ σ', At K ca α st H ρ' σ' → Q σ' H
def QG (X : Cx) (ca : Nat → Addr) (x : Expr) (g : G) : Prop := PG X x (tGt X.K ca g)
theorem pgW {X : Cx} {x : Expr} {t t' : TG} (p : PG X x t) (h : ∀ v σ H Q, t' v σ H Q → t v σ H Q) : PG X x t' := ⟨fun pins s σ H v u Q I r q => p.run pins s σ H v u Q I r (h v σ H Q q)⟩
def gN (i : Nat) : G := fun d ρ => some (ρ.set i (some d))
theorem qg_name (i : Nat) {x : Str} (hN : X.N.Nodup) (hi : X.N[i]? = some x := by rfl) (hx : Loc X.env.scope x := by first | exact Or.inl rfl | exact Or.inr rfl) (hf : X.fn x = true ∨ X.env.scope.names.lookup x = some .local := by first | exact .inl rfl | exact .inr rfl) : QG X ca (.Name x pos) (gN i) :=
  pgW (pg_name hN hi hx hf) fun v σ H Q ⟨α, st, d, ρ, ρ', A, r, e, q⟩ => by
    cases e
    exact q _ ⟨A.lk, A.re.set r i⟩
/-- several targets -/
abbrev Gs := List D → Env → Option Env
def tGts (K : Frag) (ca : Nat → Addr) (g : Gs) : TGs := fun vs σ H Q => ∃ α st ds ρ ρ', At K ca α st H ρ σ ∧ RVs K α st.length H ds vs ∧ g ds ρ = some ρ' ∧ ∀ σ', At K ca α st H ρ' σ' → Q σ' H
def QGs (X : Cx) (ca : Nat → Addr) (x : List Expr) (g : Gs) : Prop := PGs X x (tGts X.K ca g)
theorem pgsW {X : Cx} {x : List Expr} {t t' : TGs} (p : PGs X x t) (h : ∀ v σ H Q, t' v σ H Q → t v σ H Q) : PGs X x t' := ⟨fun pins s σ H v u Q I r q => p.run pins s σ H v u Q I r (h v σ H Q q)⟩
def gsNil : Gs := fun ds ρ => match ds with
  | [] => some ρ
  | _ => none
def gsCons (g : G) (gs : Gs) : Gs := fun ds ρ => match ds with
  | d :: r => (g d ρ).bind fun ρ1 => gs r ρ1
  | [] => none
theorem qgs_nil : QGs X ca [] gsNil := pgsW pgs_nil fun vs σ H Q ⟨α, st, ds, ρ, ρ', A, r, e, q⟩ => by
  cases r with
  | nil => cases e; exact ⟨rfl, q _ A⟩
  | cons _ _ => cases e
theorem qgs_cons {g : G} {gs : Gs} (h1 : QG X ca a g) (h2 : QGs X ca es gs) (hs : (assignEach (a :: es) X.env).map (·.2) = assign a X.env :: (assignEach es X.env).map (·.2) := by rfl) : QGs X ca (a :: es) (gsCons g gs) :=
  pgsW (pgs_cons h1 h2 hs) fun vs σ H Q ⟨α, st, ds, ρ, ρ', A, r, e, q⟩ => by
    cases r with
    | nil => cases e
    | cons r rr =>
      obtain ⟨ρ1, e1, e2⟩ := Option.bind_eq_some_iff.mp e
      exact ⟨_, _, rfl, α, st, _, ρ, ρ1, A, r, e1, fun σ1 A1 => ⟨α, st, _, ρ1, ρ', A1, rr, e2, q⟩⟩
def gT (n : Nat) (gs : Gs) : G := fun d ρ => match d with
  | .tup xs => if xs.length = n then gs xs ρ else none
  | _ => none
theorem qg_tup {gs : Gs} {k n : Nat} (hc : X.calm = true) (h : QGs X ca es gs) (hn : (assignEach es X.env).length = n := by rfl) (hst : (assignEach es X.env).findIdx? (·.1) = none := by rfl) : QG X ca (.Tuple es k pos) (gT n gs) :=
  pgW (pg_tup hc h hn hst) fun v σ H Q ⟨α, st, d, ρ, ρ', A, r, e, q⟩ => by
    cases r <;> try cases e
    rename_i h1 r1 _
    simp only [gT] at e
    split at e <;> try cases e
    rename_i hl
    exact ⟨_, _, rfl, h1, by rw [← r1.length]; exact hl, α, st, _, ρ, ρ', A, r1, e, q⟩
/-- target = e -/
def sAsg (e : E) (g : G) : S := fun ρ st => fE (e ρ st) ρ fun d st => match g d ρ with
  | some ρ' => .nx ρ' st
  | none => .bad
theorem qf_asg {tg : Expr} {g : G} (he : QE X ca W a ea) (hg : QG X ca tg g) (hs : swapsWithSole [tg] a pos.line X.env = pure false := by rfl) (hw : swappedStores [tg] a X.env = pure none := by rfl)
    (h1 : (assignEach [tg] X.env).map (·.2) = [assign tg X.env] := by rfl) : QF X ca W (.Assign [tg] a pos) (sAsg ea g) :=
  psW (ps_asg he hg hs hw h1) fun E σ H ⟨α, st, ρ, at0, p⟩ => tF_next at0 .refl p fun α1 st1 d v H1 a1 _ x1 r1 p1 => by
    cases e : g d ρ with
    | none => rw [e] at p1; exact p1.elim
    | some ρ' =>
      rw [e] at p1
      exact ⟨α1, st1, d, ρ, ρ', a1, r1, e, fun σ' A' => p1 α1 H1 σ' x1 A'⟩
def sSet (i : Nat) (e : E) : S := fun ρ st => fE (e ρ st) ρ fun d st => .nx (ρ.set i (some d)) st
theorem qf_set (i : Nat) {x : Str} {pos' : Pos} (hN : X.N.Nodup) (he : QE X ca W a ea) (hi : X.N[i]? = some x := by rfl) (hx : Loc X.env.scope x := by first | exact Or.inl rfl | exact Or.inr rfl) (hs : swapsWith a (some (.Name x pos')) pos.line X.env = pure false := by rfl) (hf : X.fn x = true ∨ X.env.scope.names.lookup x = some .local := by first | exact .inl rfl | exact .inr rfl) :
    QF X ca W (.Assign [.Name x pos'] a pos) (sSet i ea) :=
  psW (ps_set hN hi hx he hs hf) fun E σ H ⟨α, st, ρ, at0, p⟩ => tF_next at0 .refl p fun α1 st1 d v H1 a1 _ x1 r1 p1 => p1 α1 H1 _ x1 ⟨a1.lk, a1.re.set r1 i⟩
/-- a, b = e1, e2 (two names) -/
def sPar (i j : Nat) (es : List E) : S := fun ρ st => fE (cArgs es ρ st) ρ fun ds st => match ds with
  | [d, e] => .nx ((ρ.set i (some d)).set j (some e)) st
  | _ => .bad
theorem qf_par (i j : Nat) {x y : Str} {ees : List E} {px py pt : Pos} {kt k2 pt2} (hc : X.calm = true) (hN : X.N.Nodup) (ha : QA X ca W [a, b] (cArgs ees))
    (hw : swappedStores [.Tuple [.Name x px, .Name y py] kt pt] (.Tuple [a, b] k2 pt2) X.env = pure (some [x, y])) (hi : X.N[i]? = some x := by rfl) (hj : X.N[j]? = some y := by rfl) (hij : i ≠ j := by decide)
    (hx : X.env.scope.names.lookup x = some .local := by rfl) (hy : X.env.scope.names.lookup y = some .local := by rfl)
    (hs : swapsWithSole [.Tuple [.Name x px, .Name y py] kt pt] (.Tuple [a, b] k2 pt2) pos.line X.env = pure false := by rfl) :
    QF X ca W (.Assign [.Tuple [.Name x px, .Name y py] kt pt] (.Tuple [a, b] k2 pt2) pos) (sPar i j ees) :=
  psW (ps_par hc hN hi hj hij hx hy ha hw hs) fun E σ H ⟨α, st, ρ, at0, p⟩ => tF_next at0 .refl p fun α1 st1 ds vs H1 a1 _ x1 r1 p1 => by
    cases r1 with
    | nil => exact p1.elim
    | cons q1 r1 =>
      cases r1 with
      | nil => exact p1.elim
      | cons q2 r1 =>
        cases r1 with
        | nil => exact ⟨_, _, rfl, p1 α1 H1 _ x1 ⟨a1.lk, (a1.re.set q1 i).set q2 j⟩⟩
        | cons _ _ => exact p1.elim
/-- name op= e -/
def sAug (i : Nat) (f : D → D → Sto → R D) (e : E) : S := fun ρ st => match ρ[i]? with
  | some (some x) => fE (e ρ st) ρ fun y st => fE (f x y st) ρ fun z st => .nx (ρ.set i (some z)) st
  | _ => .bad
theorem fE_bind {β γ : Type} (r : R β) (f : β → Sto → R γ) (ρ : Env) (k : γ → Sto → F) : fE (r.bind f) ρ k = fE r ρ fun b st => fE (f b st) ρ k := by cases r <;> rfl
theorem qf_aug (i : Nat) {x : Str} {op : Operator} {f : D → D → Sto → R D} {pos' : Pos} (hN : X.N.Nodup) (hf : OpR X (inplaceOp op) (rD2 X.K ca f)) (he : QE X ca W a ea) (hi : X.N[i]? = some x := by rfl) (hx : Loc X.env.scope x := by first | exact Or.inl rfl | exact Or.inr rfl) (hl : X.fn x = true ∨ X.env.scope.names.lookup x = some .local := by first | exact .inl rfl | exact .inr rfl)
    (hb : ∀ x y st, (∃ z, f x y st = .ok z st) ∨ f x y st = .bad := by intro x y st; cases x <;> cases y <;> first | exact .inr rfl | exact .inl ⟨_, rfl⟩) :
    QF X ca W (.AugAssign (.Name x pos') op a pos) (sAug i f ea) :=
  psW (ps_aug (ti := rD2 X.K ca f) hN hi hx he hf hl) fun E σ H ⟨α, st, ρ, at0, p⟩ => by
    unfold sAug at p
    split at p <;> try exact p.elim
    rename_i d e
    obtain ⟨v, h1, h2⟩ := at0.re.get e
    refine ⟨v, h1, tF_next at0 .refl p fun α1 st1 y w H1 a1 x1 _ r1 p1 => ?_⟩
    refine ⟨α1, st1, α1, st1.length, H1, d, y, fun _ _ _ => False, a1.lk, .refl, h2.mono x1.toGr, r1, ?_⟩
    rcases hb d y st1 with ⟨z, e⟩ | e
    · rw [e] at p1 ⊢
      exact fun α2 H2 g x2 L2 r2 => p1 α2 H2 _ (x1.trans x2) ⟨L2, (a1.re.mono x2.toGr).set r2 i⟩
    · rw [e] at p1
      exact p1.elim
def iaddD : D → D → Sto → R D
  | .int i, .int j, st => .ok (.int (i + j)) st
  | _, _, _ => .bad
def isubD : D → D → Sto → R D
  | .int i, .int j, st => .ok (.int (i - j)) st
  | _, _, _ => .bad
theorem d_iadd : OpR X (inplaceOp .Add) (rD2 X.K ca iaddD) := by
  intro pins s σ H x y v u Q I rx ry ⟨α, st, α0, N0, H0, dx, dy, W, L, xt, r1, r2, p⟩
  cases r1 <;> cases r2 <;> try exact False.elim p
  exact iop_add pins s σ H _ _ v u Q I rx ry ⟨_, _, rfl, rfl, p α H _ xt L (.int _)⟩
theorem d_isub : OpR X (inplaceOp .Sub) (rD2 X.K ca isubD) := by
  intro pins s σ H x y v u Q I rx ry ⟨α, st, α0, N0, H0, dx, dy, W, L, xt, r1, r2, p⟩
  cases r1 <;> cases r2 <;> try exact False.elim p
  exact iop_sub pins s σ H _ _ v u Q I rx ry ⟨_, _, rfl, rfl, p α H _ xt L (.int _)⟩

/-! ### fields -/
/-- o.f = e -/
def sFldD (cs : List Nat) (f : Str) (o e : E) : S := fun ρ st => fE (e ρ st) ρ fun d st => fE (o ρ st) ρ fun x st => match x with
  | .loc n => match st[n]? with
    | some (.ins c fs) => if c ∈ cs ∧ fs.length < 1000 then .nx ρ (st.set n (.ins c (putFD f d fs))) else .bad
    | _ => .bad
  | _ => .bad
theorem qf_fld {cs : List Nat} {f : Str} {o : Expr} {eo : E} {tpos : Pos} (hc : Flds X ca cs f) (ho : QE X ca W o eo) (he : QE X ca W a ea) (hs : swapsWith a (some (.Attribute o f tpos)) pos.line X.env = pure false := by rfl) :
    QF X ca W (.Assign [.Attribute o f tpos] a pos) (sFldD cs f eo ea) :=
  psW (ps_fld ho he hs) fun E σ H ⟨α, st, ρ, at0, p⟩ => tF_next at0 .refl p fun α1 st1 d v H1 a1 _ x1 r1 p1 => tF_next a1 x1 p1 fun α2 st2 y u H2 a2 x2 xb r2 p2 => by
    have r1' := RV.mono x2.toGr r1
    cases r2 <;> try exact False.elim p2
    dsimp only at p2
    split at p2 <;> try exact p2.elim
    rename_i c fs e
    split at p2 <;> try exact p2.elim
    rename_i hcs
    obtain ⟨dx, gs, h1, q1⟩ := lk_ins a2.lk e
    obtain ⟨k1, k2⟩ := hc c hcs.1
    obtain ⟨L2, xw⟩ := a2.lk.write e h1 (fun _ z => by cases z) (fun _ _ z => by cases z) (.ins (dx := dx) (q1.putF f r1'))
    refine ⟨_, _, _, _, rfl, h1, k1, k2, by rw [← q1.length]; exact hcs.2, p2 _ _ σ (xb.trans xw) (a2.later xw L2)⟩
/-- o.f op= e -/
def sFldAugD (cs : List Nat) (f : Str) (g : D → D → Sto → R D) (o e : E) : S := fun ρ st => fE (o ρ st) ρ fun x st => match x with
  | .loc n => match st[n]? with
    | some (.ins c fs) => if c ∈ cs then match fs.lookup f with
      | some v => fE (e ρ st) ρ fun y st => fE (g v y st) ρ fun z st => match st[n]? with
        | some (.ins c' fs') => if c' = c ∧ fs'.length < 1000 then .nx ρ (st.set n (.ins c (putFD f z fs'))) else .bad
        | _ => .bad
      | none => .bad else .bad
    | _ => .bad
  | _ => .bad
theorem qf_fldaug {cs : List Nat} {f : Str} {o : Expr} {eo : E} {tpos : Pos} {op : Operator} {g : D → D → Sto → R D} (hc : Flds X ca cs f) (hg : InOp X op (rD2 X.K ca g)) (ho : QE X ca W o eo) (he : QE X ca W a ea)
    (hb : ∀ x y st, (∃ z, g x y st = .ok z st) ∨ g x y st = .bad := by intro x y st; cases x <;> cases y <;> first | exact .inr rfl | exact .inl ⟨_, rfl⟩) : QF X ca W (.AugAssign (.Attribute o f tpos) op a pos) (sFldAugD cs f g eo ea) :=
  psW (ps_fldaug ho he hg) fun E σ H ⟨α, st, ρ, at0, p⟩ => by
    refine tF_next (rel := relV X.K) at0 .refl p fun α1 st1 x v H1 a1 _ x1 r1 p1 => ?_
    cases r1 <;> try exact False.elim p1
    rename_i n hn
    dsimp only at p1
    split at p1 <;> try exact p1.elim
    rename_i c fs e
    split at p1 <;> try exact p1.elim
    rename_i hcs
    obtain ⟨dx, gs, h1, q1⟩ := lk_ins a1.lk e
    obtain ⟨k1, k2⟩ := hc c hcs
    rcases q1.fld f with ⟨e1, _⟩ | ⟨d, y2, e1, e2, r2⟩
    · rw [e1] at p1; exact p1.elim
    · rw [e1] at p1
      refine ⟨_, _, _, _, _, rfl, h1, k1, k2, e2, tF_next (rel := relV X.K) a1 x1 p1 fun α2 st2 y u H2 a2 x2 xb r3 p2 => ?_⟩
      refine ⟨α2, st2, α2, st2.length, H2, d, y, fun _ _ _ => False, a2.lk, .refl, r2.mono x2.toGr, r3, ?_⟩
      rcases hb d y st2 with ⟨z, e⟩ | e
      · rw [e] at p2 ⊢
        simp only [fE_ok] at p2
        intro α3 H3 zv x3 L3 r4
        have a3 := a2.later x3 L3
        have xb3 := xb.trans x3
        split at p2 <;> try exact p2.elim
        rename_i c' fs' e'
        split at p2 <;> try exact p2.elim
        rename_i hcs'
        obtain ⟨dx', gs', h1', q1'⟩ := lk_ins a3.lk e'
        obtain ⟨rfl, hz⟩ := hcs'
        obtain ⟨L4, xw⟩ := a3.lk.write e' h1' (fun _ z => by cases z) (fun _ _ z => by cases z) (.ins (dx := dx') (q1'.putF f r4))
        have ea' : α3 n = α1 n := (x2.trans x3).ag n hn
        rw [ea'] at h1' L4 xw
        exact ⟨dx', gs', h1', by rw [← q1'.length]; exact hz, p2 _ _ σ (xb3.trans xw) (a3.later xw L4)⟩
      · rw [e] at p2
        exact p2.elim
theorem in_isub : InOp X .Sub (rD2 X.K ca isubD) := fun pins s σ H x y u v Q I rx ry h => d_isub pins s σ H x y u v Q I rx ry h
theorem in_iadd : InOp X .Add (rD2 X.K ca iaddD) := fun pins s σ H x y u v Q I rx ry h => d_iadd pins s σ H x y u v Q I rx ry h

/-! ### o[i] = e, del d[k] -/
def setD (o i v : D) (st : Sto) : Option Sto := match o with
  | .loc n => match st[n]? with
    | some (.lst xs) => match i with
      | .int k => (ixN xs.length k).map fun j => st.set n (.lst (xs.set j v))
      | _ => none
    | some (.dct kvs) => match keyD i with
      | some k => if kvs.length < sizeLine then some (st.set n (.dct (putD kvs k v))) else none
      | none => none
    | _ => none
  | _ => none
def rSetA (K : Frag) (ca : Nat → Addr) : TSet := fun o i v H Q => ∃ α st do_ di dv st', Lk K ca α st H ∧ RV K α st.length H do_ o ∧ RV K α st.length H di i ∧ RV K α st.length H dv v ∧ setD do_ di dv st = some st' ∧
  ∀ H', Lk K ca α st' H' → Xt K α st.length H α st'.length H' → Q H'
theorem set_any (hu : X.A.units + 1 < cLine) : PSet X (rSetA X.K ca) := by
  intro pins s σ H o i v ov iv u Q I ro ri rv ⟨α, st, do_, di, dv, st', L, r1, r2, r3, e, q⟩
  cases r1 <;> try cases e
  rename_i n hn
  simp only [setD] at e
  split at e <;> try cases e
  · rename_i xs q1
    obtain ⟨vs, h1, r4⟩ := lk_lst L q1
    cases r2 <;> try cases e
    rename_i k
    dsimp only at e
    obtain ⟨j, e1, e2⟩ := Option.map_eq_some_iff.mp e
    subst e2
    obtain ⟨L2, x2⟩ := L.write q1 h1 (fun _ z => by cases z) (fun _ _ z => by cases z) (.lst (r4.set r3 j))
    refine set_list pins s σ H _ _ v ov iv u Q I ro ri rv ⟨_, _, _, j, rfl, rfl, h1, by rw [← r4.length]; exact e1, q _ L2 x2⟩
  · rename_i kvs q1
    obtain ⟨ho, h1, r4⟩ := L.at_ _ _ q1
    cases r4 with
    | dct r4 =>
      split at e <;> try cases e
      rename_i k ek
      split at e <;> try cases e
      rename_i hz
      obtain ⟨L2, x2⟩ := L.write q1 h1 (fun _ z => by cases z) (fun _ _ z => by cases z) (.dct (r4.put k r3))
      have ei := keyD_ok r2 ek
      subst ei
      cases ro
      exact d_setItem hu I (DPut.k (k := k) h1 (by rw [← r4.length]; exact hz)) ri rv fun s' I' => ⟨_, I', q _ L2 x2⟩
def sSub (o i e : E) : S := fun ρ st => fE (e ρ st) ρ fun d st => fE (o ρ st) ρ fun x st => fE (i ρ st) ρ fun y st => match setD x y d st with
  | some st' => .nx ρ st'
  | none => .bad
theorem qf_sub {o i : Expr} {eo ei : PM.E} {tpos : Pos} (hu : X.A.units + 1 < cLine) (ho : QE X ca W o eo) (hi : QE X ca W i ei) (he : QE X ca W a ea)
    (ha : ∀ v, assign (.Subscript o i tpos) X.env v = (do
      let ov ← holding [v] (eval o X.env)
      let iv ← holding [v, ov] (eval i X.env)
      standAt tpos
      holding [v, ov, iv] (setItem ov iv v)
      release [v, ov, iv] []) := by intro _; rfl)
    (hs : swapsWithSole [.Subscript o i tpos] a pos.line X.env = pure false := by rfl) (hw : swappedStores [.Subscript o i tpos] a X.env = pure none := by rfl)
    (h1 : (assignEach [.Subscript o i tpos] X.env).map (·.2) = [assign (.Subscript o i tpos) X.env] := by rfl) : QF X ca W (.Assign [.Subscript o i tpos] a pos) (sSub eo ei ea) :=
  psW (ps_asg he (pg_sub ho hi (set_any hu) ha) hs hw h1) fun E σ H ⟨α, st, ρ, at0, p⟩ => tF_next (rel := relV X.K) at0 .refl p fun α1 st1 d v H1 a1 _ x1 r1 p1 => tF_next (rel := relV X.K) a1 x1 p1 fun α2 st2 x u H2 a2 x2 xb2 r2 p2 => tF_next (rel := relV X.K) a2 xb2 p2 fun α3 st3 y w H3 a3 x3 xb3 r3 p3 => by
    cases e : setD x y d st3 with
    | none => rw [e] at p3; exact p3.elim
    | some st' =>
      rw [e] at p3
      exact ⟨α3, st3, x, y, d, st', a3.lk, r2.mono x3.toGr, r3, r1.mono (x2.trans x3).toGr, e, fun H' L' x' => p3 α3 H' σ (xb3.trans x') (a3.later x' L')⟩
def delD (o i : D) (st : Sto) : Option Sto := match o with
  | .loc n => match st[n]? with
    | some (.dct kvs) => match keyD i with
      | some k => if (valD kvs k).isSome then some (st.set n (.dct (dropD kvs k))) else none
      | none => none
    | _ => none
  | _ => none
def sDel (o i : E) : S := fun ρ st => fE (o ρ st) ρ fun x st => fE (i ρ st) ρ fun y st => match delD x y st with
  | some st' => .nx ρ st'
  | none => .bad
theorem qf_del {o i : Expr} {eo ei : PM.E} {tpos : Pos} (ho : QE X ca W o eo) (hi : QE X ca W i ei) : QF X ca W (.Delete [.Subscript o i tpos] pos) (sDel eo ei) :=
  psW (ps_ddel ho hi) fun E σ H ⟨α, st, ρ, at0, p⟩ => tF_next (rel := relV X.K) at0 .refl p fun α1 st1 d v H1 a1 _ x1 r1 p1 => tF_next (rel := relV X.K) a1 x1 p1 fun α2 st2 x u H2 a2 x2 xb2 r2 p2 => by
    have r1' := RV.mono x2.toGr r1
    cases r1' <;> try exact False.elim p2
    rename_i n hn
    simp only [delD] at p2
    split at p2 <;> try exact p2.elim
    rename_i st' e
    split at e <;> try cases e
    rename_i kvs q1
    split at e <;> try cases e
    rename_i k ek
    split at e <;> try cases e
    rename_i hk
    obtain ⟨ho, h1, r4⟩ := a2.lk.at_ _ _ q1
    cases r4 with
    | dct r4 =>
      obtain ⟨L3, x3⟩ := a2.lk.write q1 h1 (fun _ z => by cases z) (fun _ _ z => by cases z) (.dct (r4.drop k))
      have ei := keyD_ok r2 ek
      refine ⟨_, _, k, rfl, h1, ei, ?_, p2 _ _ σ (xb2.trans x3) (a2.later x3 L3)⟩
      rcases r4.val k with ⟨e1, _⟩ | ⟨_, _, _, e2, _⟩
      · rw [e1] at hk; exact absurd hk (by simp)
      · rw [e2]; rfl
end
end PM

set_option Elab.async false
set_option linter.all false
set_option maxRecDepth 100000
set_option maxHeartbeats 4000000
/-! PM6: loops, comprehensions. -/
namespace PM
open PySem PySem.Spec PyProof.Rows L2

/-- what a loop walks: what must stay, the items -/
structure Itb where
  chk : Sto → Prop
  xs : List D
abbrev EI := Env → Sto → R Itb
def IterOk (K : Frag) (ca : Nat → Addr) (α : Nat → Addr) (N : Nat) (H : Hp) (b : Itb) (J : It) : Prop :=
  ∀ α1 st1 H1, Xt K α N H α1 st1.length H1 → Lk K ca α1 st1 H1 → b.chk st1 → J.stop b.xs.length H1 ∧ ∀ i d, b.xs[i]? = some d → J.go i H1 ∧ ∀ x H2, J.yld i H1 x H2 → Xt K α1 st1.length H1 α1 st1.length H2 ∧ Lk K ca α1 st1 H2 ∧ RV K α1 st1.length H2 d x
def relI (K : Frag) (ca : Nat → Addr) : Rel Itb It := fun _ α N H b J => IterOk K ca α N H b J
def QI (X : Cx) (ca : Nat → Addr) (W : WX) (tg x : Expr) (e : EI) : Prop := PI X tg x (tG X.K ca (relI X.K ca) W e)
theorem piW {X : Cx} {tg x : Expr} {t t' : TI} (p : PI X tg x t) (h : ∀ σ H Q, t' σ H Q → t σ H Q) : PI X tg x t' := ⟨fun pins s σ H Q I q => p.run pins s σ H Q I (h σ H Q q)⟩

section
variable {X : Cx} {ca : Nat → Addr} {W : WX} {a b c : Expr} {ea eb ec : E} {pos : Pos} {tg : Expr} {p0 : Pos}
theorem pi_seq {l : Expr} {tl : TE} (hl : PE X l tl) : PI X tg l (fun σ H R => tl σ H fun x H1 => ∃ a, x = .ref a ∧ (((∃ xs, SqL X.K H1 a xs) ∧ R (Itl X.K a) H1) ∨ ((∃ xs, SqT X.K H1 a xs) ∧ R (Itt X.K a) H1))) := by
  refine ⟨fun pins s σ H R I h => ?_⟩
  refine thn (hl.run pins s σ H _ I h) fun v s1 ⟨x, H1, I1, r1, q1⟩ => ?_
  obtain ⟨a, e, q | q⟩ := q1
  · obtain ⟨⟨xs, hq⟩, q⟩ := q
    subst e
    cases r1
    obtain ⟨its, rv, p, hz⟩ := I1.list hq
    refine wpAny_pyIter_list p.isList ?_
    refine ⟨s1.heap.objs.size, [s1.heap.objs.size], _, _, H1, rfl, I1.kept (t' := s1.toks) fun b o e => Heap.get?_push_of_some _ e, turn_list a _, ⟨_, Heap.get?_push_size _ rfl, rfl, rfl⟩, fun b hb => ?_, q⟩
    have e : b = s1.heap.objs.size := by simpa using hb
    subst e
    exact I1.fpOk (Nat.le_refl _) (I1.hok.fresh (Nat.le_refl _))
  · obtain ⟨⟨xs, hq⟩, q⟩ := q
    subst e
    cases r1
    obtain ⟨its, rv, p, hz⟩ := I1.tuple hq
    refine wpAny_pyIter_tuple (show s1.heap.IsTuple a its.toArray from p) ?_
    refine ⟨s1.heap.objs.size, [s1.heap.objs.size], _, _, H1, rfl, I1.kept (t' := s1.toks) fun b o e => Heap.get?_push_of_some _ e, turn_tuple a _, ⟨_, Heap.get?_push_size _ rfl, rfl, rfl⟩, fun b hb => ?_, q⟩
    have e : b = s1.heap.objs.size := by simpa using hb
    subst e
    exact I1.fpOk (Nat.le_refl _) (I1.hok.fresh (Nat.le_refl _))
theorem sqL_inj {K : Frag} {H : Hp} {a : Addr} {xs ys : List V} (h : H a = some (.lst xs)) : SqL K H a xs := .inl (.inl h)
/-- an item of a list, read off -/
theorem itl_ok {K : Frag} {α : Nat → Addr} {N : Nat} {H1 : Hp} {a : Addr} {ds : List D} {vs : List V} (h : SqL K H1 a vs) (r : RVs K α N H1 ds vs) :
    (Itl K a).stop ds.length H1 ∧ ∀ i d, ds[i]? = some d → (Itl K a).go i H1 ∧ ∀ x H2, (Itl K a).yld i H1 x H2 → H2 = H1 ∧ RV K α N H1 d x := by
  refine ⟨⟨vs, h, by rw [r.length]; exact Nat.le_refl _⟩, fun i d e => ?_⟩
  obtain ⟨y, e2, r2⟩ := r.get e
  refine ⟨⟨vs, y, h, e2⟩, fun x H2 ⟨e3, q⟩ => ⟨e3, ?_⟩⟩
  have := q vs h
  rw [e2] at this
  cases this
  exact r2
theorem itt_ok {K : Frag} {α : Nat → Addr} {N : Nat} {H1 : Hp} {a : Addr} {ds : List D} {vs : List V} (h : SqT K H1 a vs) (r : RVs K α N H1 ds vs) :
    (Itt K a).stop ds.length H1 ∧ ∀ i d, ds[i]? = some d → (Itt K a).go i H1 ∧ ∀ x H2, (Itt K a).yld i H1 x H2 → H2 = H1 ∧ RV K α N H1 d x := by
  refine ⟨⟨vs, h, by rw [r.length]; exact Nat.le_refl _⟩, fun i d e => ?_⟩
  obtain ⟨y, e2, r2⟩ := r.get e
  refine ⟨⟨vs, y, h, e2⟩, fun x H2 ⟨e3, q⟩ => ⟨e3, ?_⟩⟩
  have := q vs h
  rw [e2] at this
  cases this
  exact r2
def itrD : D → Sto → R Itb
  | .tup xs, st => .ok ⟨fun _ => True, xs⟩ st
  | .con xs, st => .ok ⟨fun _ => True, xs⟩ st
  | .loc n, st => match st[n]? with
    | some (.lst xs) => .ok ⟨fun st => st[n]? = some (.lst xs), xs⟩ st
    | _ => .bad
  | _, _ => .bad
def cItr (e : E) : EI := fun ρ st => (e ρ st).bind itrD
theorem qi_e (h : QE X ca W a ea) : QI X ca W tg a (cItr ea) :=
  piW (pi_seq h) fun σ H Q ⟨α, st, ρ, at0, p⟩ => tG_next at0 .refl p fun α1 st1 d v H1 a1 _ x1 r1 p1 => by
    cases r1 <;> try exact False.elim p1
    · rename_i h r
      refine ⟨_, rfl, .inr ⟨⟨_, h⟩, p1 α1 H1 _ x1 a1.lk fun α2 st2 H2 x2 L2 _ => ?_⟩⟩
      obtain ⟨h1, h2⟩ := itt_ok (x2.tup _ _ h) (r.mono x2.toGr)
      refine ⟨h1, fun i d e => ⟨(h2 i d e).1, fun x H3 y => ?_⟩⟩
      obtain ⟨rfl, r3⟩ := (h2 i d e).2 x H3 y
      exact ⟨.refl, L2, r3⟩
    · rename_i h r
      refine ⟨_, rfl, .inl ⟨⟨_, h.sq⟩, p1 α1 H1 _ x1 a1.lk fun α2 st2 H2 x2 L2 _ => ?_⟩⟩
      obtain ⟨h1, h2⟩ := itl_ok (x2.con _ _ h).sq (r.mono x2.toGr)
      refine ⟨h1, fun i d e => ⟨(h2 i d e).1, fun x H3 y => ?_⟩⟩
      obtain ⟨rfl, r3⟩ := (h2 i d e).2 x H3 y
      exact ⟨.refl, L2, r3⟩
    · rename_i n hn
      simp only [itrD] at p1
      split at p1 <;> try exact p1.elim
      rename_i xs e
      obtain ⟨vs, h1, q1⟩ := lk_lst a1.lk e
      refine ⟨_, rfl, .inl ⟨⟨_, .inl (.inl h1)⟩, p1 α1 H1 _ x1 a1.lk fun α2 st2 H2 x2 L2 ck => ?_⟩⟩
      obtain ⟨ws, h2, q2⟩ := lk_lst L2 ck
      rw [x2.ag n hn] at h2
      obtain ⟨h3, h4⟩ := itl_ok (.inl (.inl h2)) q2
      refine ⟨h3, fun i d e => ⟨(h4 i d e).1, fun x H3 y => ?_⟩⟩
      obtain ⟨rfl, r3⟩ := (h4 i d e).2 x H3 y
      exact ⟨.refl, L2, r3⟩
def cItl (e : EL) : EI := fun ρ st => (e ρ st).bind fun xs st => .ok ⟨fun _ => True, xs⟩ st
theorem qi_l {e : EL} (h : QL X ca W a e) : QI X ca W tg a (cItl e) :=
  piW (pi_seq h) fun σ H Q ⟨α, st, ρ, at0, p⟩ => tG_next at0 .refl p fun α1 st1 d v H1 a1 _ x1 r1 p1 => by
    obtain ⟨q, vs, rfl, h0, h1, r, hn⟩ := r1
    refine ⟨_, rfl, .inl ⟨⟨_, .inl (.inl h1)⟩, p1 α1 H1 _ x1 a1.lk fun α2 st2 H2 x2 L2 _ => ?_⟩⟩
    obtain ⟨h3, h4⟩ := itl_ok (K := X.K) (.inl (.inl (x2.keep q _ h1 hn))) (r.mono x2.toGr)
    refine ⟨h3, fun i d e => ⟨(h4 i d e).1, fun x H3 y => ?_⟩⟩
    obtain ⟨rfl, r3⟩ := (h4 i d e).2 x H3 y
    exact ⟨.refl, L2, r3⟩
/-- lo, lo + 1, .. (n of them) -/
def rngD (lo : Int) (n : Nat) : List D := (List.range n).map fun i => D.int (lo + (i : Nat))
theorem itr_ok {K : Frag} {α : Nat → Addr} {N : Nat} {H : Hp} {lo : Int} {n : Nat} : IterOk K ca α N H ⟨fun _ => True, rngD lo n⟩ (Itr lo n) := by
  intro α1 st1 H1 x L _
  refine ⟨by show n ≤ (rngD lo n).length; simp [rngD], fun i d e => ?_⟩
  have e : (rngD lo n)[i]? = some d := e
  unfold rngD at e
  rw [List.getElem?_map] at e
  obtain ⟨j, e1, e2⟩ := Option.map_eq_some_iff.mp e
  obtain ⟨h1, h2⟩ := List.getElem?_eq_some_iff.mp e1
  simp at h1 h2
  subst h2
  refine ⟨h1, fun x H2 ⟨e3, e4⟩ => ?_⟩
  subst e3 e4 e2
  exact ⟨.refl, L, .int _⟩
def rng1D (x : D) (st : Sto) : R Itb := match x with
  | .int j => if -(2 ^ 62) ≤ j ∧ j < 2 ^ 62 then .ok ⟨fun _ => True, rngD 0 j.toNat⟩ st else .bad
  | _ => .bad
def cRng1 (e : E) : EI := fun ρ st => (e ρ st).bind rng1D
theorem qi_range1 (hg : Gl X "range") (hm : X.mg "range" = none) (ha : QE X ca W a ea) (hs : starEach [a] X.env = [(false, eval a X.env)] := by rfl) : QI X ca W tg (.Call (.Name "range" p0) [a] [] pos) (cRng1 ea) :=
  piW (pi_range1 hg hm (pa1 ha hs) hs) fun σ H Q ⟨α, st, ρ, at0, p⟩ => tG_next at0 .refl p fun α1 st1 d v H1 a1 _ x1 r1 p1 => by
    cases r1 <;> try exact False.elim p1
    rename_i j
    simp only [rng1D] at p1
    split at p1 <;> try exact p1.elim
    rename_i hj
    exact ⟨j, rfl, hj.1, hj.2, p1 α1 H1 _ x1 a1.lk itr_ok⟩
def rng2D (x y : D) (st : Sto) : R Itb := match x, y with
  | .int i, .int j => if (-(2 ^ 62) ≤ i ∧ i < 2 ^ 62 ∧ -(2 ^ 62) ≤ j ∧ j < 2 ^ 62) then .ok ⟨fun _ => True, rngD i (j - i).toNat⟩ st else .bad
  | _, _ => .bad
def cRng2 (e f : E) : EI := fun ρ st => (e ρ st).bind fun x st => (f ρ st).bind fun y st => rng2D x y st
theorem qi_range2 (hg : Gl X "range") (hm : X.mg "range" = none) (ha : QE X ca W a ea) (hb : QE X ca W b eb) (hs : starEach [a, b] X.env = [(false, eval a X.env), (false, eval b X.env)] := by rfl) (hs2 : starEach [b] X.env = [(false, eval b X.env)] := by rfl) :
    QI X ca W tg (.Call (.Name "range" p0) [a, b] [] pos) (cRng2 ea eb) :=
  piW (pi_range2 hg hm (pa_cons ha (pa1 hb hs2) (by rw [hs, hs2])) hs hs2) fun σ H Q ⟨α, st, ρ, at0, p⟩ => tG_next at0 .refl p fun α1 st1 d v H1 a1 _ x1 r1 p1 => tG_next a1 x1 p1 fun α2 st2 e u H2 a2 x2 xb r2 p2 => by
    cases r1 <;> try exact False.elim p2
    cases r2 <;> try exact False.elim p2
    rename_i i j
    simp only [rng2D] at p2
    split at p2 <;> try exact p2.elim
    rename_i hj
    exact ⟨i, j, rfl, hj, p2 α2 H2 _ xb a2.lk itr_ok⟩

/-! ### for -/
open Classical in
noncomputable def forGo (chk : Sto → Prop) (g : G) (body : S) : List D → Env → Sto → F
  | [], ρ, st => if chk st then .nx ρ st else .bad
  | x :: r, ρ, st => if chk st then match g x ρ with
    | some ρ1 => match body ρ1 st with
      | .nx ρ' st' => forGo chk g body r ρ' st'
      | .ct ρ' st' => forGo chk g body r ρ' st'
      | .bk ρ' st' => .nx ρ' st'
      | .rt d st' => .rt d st'
      | .exc c fs ρ' st' => .exc c fs ρ' st'
      | .bad => .bad
    | none => .bad else .bad
noncomputable def sFor (e : EI) (g : G) (body : S) : S := fun ρ st => fE (e ρ st) ρ fun b st => forGo b.chk g body b.xs ρ st
theorem qf_for {iter : Expr} {body : List Stmt} {e : EI} {g : G} {s1 : S} (o : Ok X W) (hi : QI X ca W tg iter e) (hg : QG X ca tg g) (hb : QFs X ca W body s1) (hs : ∀ x, foldedSetIterable iter X.env x = pure x := by intro _; rfl) :
    QF X ca W (.For tg iter body [] pos) (sFor e g s1) :=
  psW (ps_for o.hp o.calm hi hg hb hs) fun E σ H ⟨α, st, ρ, at0, p⟩ => by
    refine tF_next (rel := relI X.K ca) at0 .refl p fun α1 st1 b J H1 a1 _ x1 io p1 => ?_
    refine ⟨fun i m σ' H' => ∃ α' st' ρ', At X.K ca α' st' H' ρ' σ' ∧ Xt X.K α1 st1.length H1 α' st'.length H' ∧ m + i = b.xs.length ∧ FPost X.K ca α st.length H W E (forGo b.chk g s1 (b.xs.drop i) ρ' st'),
      ⟨b.xs.length, α1, st1, ρ, a1, .refl, rfl, p1⟩, ?_⟩
    rintro i m σ' H' ⟨α', st', ρ', a', x', hm, q⟩
    cases hd : b.xs.drop i with
    | nil =>
      rw [hd] at q
      unfold forGo at q
      split at q <;> try exact q.elim
      rename_i ck
      have hl : b.xs.length ≤ i := by simpa using hd
      have hil : i = b.xs.length := by omega
      subst hil
      exact .inl ⟨(io α' st' H' x' a'.lk ck).1, q α' H' σ' (x1.trans x') a'⟩
    | cons d r =>
      rw [hd] at q
      unfold forGo at q
      split at q <;> try exact q.elim
      rename_i ck
      have hlt : i < b.xs.length := by
        apply Classical.byContradiction
        intro hn
        rw [List.drop_eq_nil_of_le (Nat.le_of_not_lt hn)] at hd
        cases hd
      have hget : b.xs[i]? = some d := by
        have : (b.xs.drop i)[0]? = some d := by rw [hd]; rfl
        simpa using this
      have hr : b.xs.drop (i + 1) = r := by
        have : (b.xs.drop i).drop 1 = r := by rw [hd]; rfl
        rw [List.drop_drop] at this
        exact this
      obtain ⟨go, yl⟩ := (io α' st' H' x' a'.lk ck).2 i d hget
      cases eg : g d ρ' with
      | none => rw [eg] at q; exact q.elim
      | some ρ1 =>
        rw [eg] at q
        dsimp only at q
        refine .inr ⟨go, fun σ2 H2 => ∃ α' st' ρ', At X.K ca α' st' H2 ρ' σ2 ∧ Xt X.K α1 st1.length H1 α' st'.length H2 ∧ (m - 1) + (i + 1) = b.xs.length ∧ FPost X.K ca α st.length H W E (forGo b.chk g s1 (b.xs.drop (i + 1)) ρ' st'),
          fun σ2 H2 h => ⟨m - 1, by omega, h⟩, fun x H2 y => ?_⟩
        obtain ⟨xy, Ly, ry⟩ := yl x H2 y
        have ay := a'.later xy Ly
        refine ⟨α', st', d, ρ', ρ1, ay, ry, eg, fun σ3 a3 => ⟨α', st', ρ1, a3, ?_⟩⟩
        have xb := (x1.trans x').trans xy
        have xi := x'.trans xy
        revert q
        cases s1 ρ1 st' with
        | nx ρ2 st2 => exact fun q α4 H4 σ4 x4 a4 => ⟨α4, st2, ρ2, a4, xi.trans x4, by omega, by rw [hr]; exact q⟩
        | ct ρ2 st2 => exact fun q α4 H4 σ4 x4 a4 => ⟨α4, st2, ρ2, a4, xi.trans x4, by omega, by rw [hr]; exact q⟩
        | bk ρ2 st2 => exact fun q α4 H4 σ4 x4 a4 => q α4 H4 σ4 (xb.trans x4) a4
        | rt d2 st2 => exact fun q α4 H4 v x4 L4 r4 => q α4 H4 v (xb.trans x4) L4 r4
        | exc c fs ρ2 st2 => exact fun q α4 H4 σ4 dd x4 a4 r4 => q α4 H4 σ4 dd (xb.trans x4) a4 r4
        | bad => exact fun q => q

/-! ### while -/
def whileN (c : ET) (b : S) : Nat → Env → Sto → Option F
  | 0, _, _ => none
  | n + 1, ρ, st => match c ρ st with
    | .ok false st' => some (.nx ρ st')
    | .ok true st' => match b ρ st' with
      | .nx ρ2 st2 => whileN c b n ρ2 st2
      | .ct ρ2 st2 => whileN c b n ρ2 st2
      | .bk ρ2 st2 => some (.nx ρ2 st2)
      | .rt d st2 => some (.rt d st2)
      | .exc k fs ρ2 st2 => some (.exc k fs ρ2 st2)
      | .bad => some .bad
    | .exc k fs st' => some (.exc k fs ρ st')
    | .bad => some .bad
theorem whileN_mono {c : ET} {b : S} : ∀ {n : Nat} {ρ : Env} {st : Sto} {r : F}, whileN c b n ρ st = some r → ∀ {m : Nat}, n ≤ m → whileN c b m ρ st = some r
  | 0, _, _, _, h, _, _ => by cases h
  | n + 1, ρ, st, r, h, m, hm => by
    obtain ⟨m, rfl⟩ : ∃ k, m = k + 1 := ⟨m - 1, by omega⟩
    unfold whileN at h ⊢
    cases e : c ρ st with
    | exc k fs st' => rw [e] at h; exact h
    | bad => rw [e] at h; exact h
    | ok k st' =>
      rw [e] at h
      cases k with
      | false => exact h
      | true =>
        dsimp only at h ⊢
        cases e2 : b ρ st' with
        | nx ρ2 st2 => rw [e2] at h; exact whileN_mono h (by omega)
        | ct ρ2 st2 => rw [e2] at h; exact whileN_mono h (by omega)
        | bk ρ2 st2 => rw [e2] at h; exact h
        | rt d st2 => rw [e2] at h; exact h
        | exc k fs ρ2 st2 => rw [e2] at h; exact h
        | bad => rw [e2] at h; exact h
open Classical in
noncomputable def sWhile (c : ET) (b : S) : S := fun ρ st => if h : ∃ r, ∃ n, whileN c b n ρ st = some r then h.choose else .bad
theorem sWhile_eq {c : ET} {b : S} {ρ : Env} {st : Sto} {r : F} {n : Nat} (h : whileN c b n ρ st = some r) : sWhile c b ρ st = r := by
  unfold sWhile
  have hx : ∃ r, ∃ n, whileN c b n ρ st = some r := ⟨r, n, h⟩
  rw [dif_pos hx]
  obtain ⟨m, hm⟩ := hx.choose_spec
  have h1 := whileN_mono h (Nat.le_max_left n m)
  have h2 := whileN_mono hm (Nat.le_max_right n m)
  rw [h1] at h2
  exact (Option.some.inj h2).symm
theorem qf_while {body : List Stmt} {tc : ET} {s1 : S} (o : Ok X W) (hc : QT X ca W c tc) (hb : QFs X ca W body s1) : QF X ca W (.While c body [] pos) (sWhile tc s1) :=
  psW (ps_while o.hp hc hb) fun E σ H ⟨α, st, ρ, at0, p⟩ => by
    by_cases hx : ∃ r, ∃ n, whileN tc s1 n ρ st = some r
    · obtain ⟨r, n, hr⟩ := hx
      rw [sWhile_eq hr] at p
      refine ⟨fun m σ' H' => ∃ α' st' ρ', At X.K ca α' st' H' ρ' σ' ∧ Xt X.K α st.length H α' st'.length H' ∧ whileN tc s1 m ρ' st' = some r, ⟨n, α, st, ρ, at0, .refl, hr⟩, ?_⟩
      rintro m σ' H' ⟨α', st', ρ', a', x', h⟩
      refine ⟨α', st', ρ', a', ?_⟩
      cases m with
      | zero => cases h
      | succ m =>
        unfold whileN at h
        cases e : tc ρ' st' with
        | exc k fs st2 =>
          rw [e] at h
          cases h
          exact fun α2 H2 dd x2 L2 r2 => p α2 H2 σ' dd (x'.trans x2) (a'.later x2 L2) r2
        | bad => rw [e] at h; cases h; exact p.elim
        | ok k st2 =>
          rw [e] at h
          intro α2 H2 k' x2 L2 ek
          cases ek
          have a2 := a'.later x2 L2
          cases k with
          | false =>
            cases h
            rw [if_neg Bool.false_ne_true]
            exact p α2 H2 σ' (x'.trans x2) a2
          | true =>
            rw [if_pos rfl]
            refine ⟨fun σ3 H3 => ∃ α' st' ρ', At X.K ca α' st' H3 ρ' σ3 ∧ Xt X.K α st.length H α' st'.length H3 ∧ whileN tc s1 m ρ' st' = some r, fun σ3 H3 h3 => ⟨m, Nat.lt_succ_self _, h3⟩, α2, st2, ρ', a2, ?_⟩
            dsimp only at h
            have xb := x'.trans x2
            cases e2 : s1 ρ' st2 with
            | nx ρ2 st3 => rw [e2] at h; exact fun α4 H4 σ4 x4 a4 => ⟨α4, st3, ρ2, a4, xb.trans x4, h⟩
            | ct ρ2 st3 => rw [e2] at h; exact fun α4 H4 σ4 x4 a4 => ⟨α4, st3, ρ2, a4, xb.trans x4, h⟩
            | bk ρ2 st3 => rw [e2] at h; cases h; exact fun α4 H4 σ4 x4 a4 => p α4 H4 σ4 (xb.trans x4) a4
            | rt d st3 => rw [e2] at h; cases h; exact fun α4 H4 v x4 L4 r4 => p α4 H4 v (xb.trans x4) L4 r4
            | exc k fs ρ2 st3 => rw [e2] at h; cases h; exact fun α4 H4 σ4 dd x4 a4 r4 => p α4 H4 σ4 dd (xb.trans x4) a4 r4
            | bad => rw [e2] at h; cases h; exact p.elim
    · unfold sWhile at p
      rw [dif_neg hx] at p
      exact p.elim

/-! ### comprehensions -/
/-- a comprehension's target: names by their slots -/
inductive CT where
  | one (i : Nat) | tup (is : List Nat)
def CT.slots : CT → List Nat
  | .one i => [i]
  | .tup is => is
def setAll : List Nat → List D → Env → Option Env
  | [], [], ρ => some ρ
  | i :: is, d :: ds, ρ => setAll is ds (ρ.set i (some d))
  | _, _, _ => none
def CT.set : CT → D → Env → Option Env
  | .one i, d, ρ => some (ρ.set i (some d))
  | .tup is, .tup ds, ρ => setAll is ds ρ
  | .tup _, _, _ => none
def gNs : List Nat → TGs
  | [] => gNil
  | i :: is => gCons (gName i) (gNs is)
def CT.g (K : Frag) : CT → TG
  | .one i => gName i
  | .tup is => gTup K is.length (gNs is)
def wipeD (ρ : Env) : List Nat → Env
  | [] => ρ
  | v :: vs => (wipeD ρ vs).set v none
theorem wipe_at {σ : L2.St} : ∀ {vs : List Nat} {i : Nat}, (wipe σ vs)[i]? = if i ∈ vs then (if i < σ.length then some none else none) else σ[i]?
  | [], i => by simp [wipe]
  | v :: vs, i => by
    unfold wipe
    by_cases e : v = i
    · subst e
      simp only [List.mem_cons, true_or, if_true]
      by_cases hv : v < σ.length
      · rw [List.getElem?_set_self (by rw [wipe_length]; exact hv), if_pos hv]
      · rw [List.getElem?_eq_none (by rw [List.length_set, wipe_length]; omega), if_neg hv]
    · rw [List.getElem?_set_ne e, wipe_at]
      have : (i ∈ v :: vs) ↔ i ∈ vs := by simp only [List.mem_cons]; exact ⟨fun h => h.resolve_left fun z => e z.symm, .inr⟩
      simp only [this]
theorem wipe_set {σ : L2.St} {vs : List Nat} {i : Nat} {x : Option V} (h : i ∈ vs) : wipe (σ.set i x) vs = wipe σ vs := by
  apply List.ext_getElem?
  intro j
  rw [wipe_at, wipe_at, List.length_set]
  by_cases hj : j ∈ vs
  · rw [if_pos hj, if_pos hj]
  · rw [if_neg hj, if_neg hj, List.getElem?_set_ne (fun e => hj (by rw [← e]; exact h))]
theorem wipe_wipe {σ : L2.St} {vs : List Nat} : wipe (wipe σ vs) vs = wipe σ vs := by
  apply List.ext_getElem?
  intro j
  rw [wipe_at, wipe_at, wipe_length]
  by_cases hj : j ∈ vs
  · rw [if_pos hj, if_pos hj]
  · rw [if_neg hj, if_neg hj]
theorem RE.wipe {K : Frag} {α : Nat → Addr} {N : Nat} {H : Hp} {ρ : Env} {σ : L2.St} (r : RE K α N H ρ σ) : ∀ vs : List Nat, RE K α N H (wipeD ρ vs) (L2.wipe σ vs)
  | [] => r
  | v :: vs => (RE.wipe r vs).forget v
theorem gNs_ok {K : Frag} {α : Nat → Addr} {N : Nat} {H : Hp} {vs : List Nat} : ∀ {is : List Nat} {ds : List D} {ws : List V} {ρ ρ' : Env} {σ : L2.St} {Q : L2.St → Hp → Prop}, RVs K α N H ds ws → RE K α N H ρ σ → setAll is ds ρ = some ρ' → (∀ i ∈ is, i ∈ vs) →
    (∀ σ', RE K α N H ρ' σ' → wipe σ' vs = wipe σ vs → Q σ' H) → gNs is ws σ H Q
  | [], _, _, ρ, ρ', σ, Q, .nil, re, e, _, q => by cases e; exact ⟨rfl, q σ re rfl⟩
  | [], _, _, _, _, _, _, .cons _ _, _, e, _, _ => by cases e
  | i :: is, _, _, _, _, _, _, .nil, _, e, _, _ => by cases e
  | i :: is, _, _, ρ, ρ', σ, Q, .cons (v := v) h r, re, e, hs, q => by
    refine ⟨_, _, rfl, ?_⟩
    show gNs is _ (σ.set i (some v)) H Q
    exact gNs_ok r (re.set h i) e (fun j hj => hs j (List.mem_cons_of_mem _ hj)) fun σ' r' w' => q σ' r' (w'.trans (wipe_set (hs i List.mem_cons_self)))
theorem CT.ok {K : Frag} {α : Nat → Addr} {N : Nat} {H : Hp} {vs : List Nat} {t : CT} {d : D} {v : V} {ρ ρ' : Env} {σ : L2.St} {Q : L2.St → Hp → Prop} (r : RV K α N H d v) (re : RE K α N H ρ σ) (e : t.set d ρ = some ρ') (hs : ∀ i ∈ t.slots, i ∈ vs)
    (q : ∀ σ', RE K α N H ρ' σ' → wipe σ' vs = wipe σ vs → Q σ' H) : t.g K v σ H Q := by
  cases t with
  | one i =>
    cases e
    exact q _ (re.set r i) (wipe_set (hs i (by simp [CT.slots])))
  | tup is =>
    cases r <;> try cases e
    rename_i h r
    have e : setAll is _ ρ = some ρ' := e
    have hl : is.length = _ := (by
      have go : ∀ {is : List Nat} {ds : List D} {ρ ρ' : Env}, setAll is ds ρ = some ρ' → is.length = ds.length := by
        intro is
        induction is with
        | nil => intro ds ρ ρ' h; cases ds <;> first | rfl | cases h
        | cons i is ih => intro ds ρ ρ' h; cases ds with
          | nil => cases h
          | cons d ds => simp only [List.length_cons]; rw [ih h]
      exact go e)
    exact ⟨_, _, rfl, h, by rw [← r.length, hl], gNs_ok r re e hs q⟩
theorem bind_assoc {β γ δ : Type} (r : R β) (f : β → Sto → R γ) (g : γ → Sto → R δ) : (r.bind f).bind g = r.bind fun x st => (f x st).bind g := by cases r <;> rfl

/-- one block's turn by turn: the items that come out -/
def cNx {β : Type} : R β → R β
  | .ok b st => .ok b st
  | _ => .bad
open Classical in
noncomputable def compGo {β : Type} (chk : Sto → Prop) (t : CT) (tt : ET) (te : Env → Sto → R β) (ρ : Env) : List D → Sto → R (List β)
  | [], st => if chk st then .ok [] st else .bad
  | x :: r, st => if chk st then match t.set x ρ with
    | some ρ1 => (cNx (tt ρ1 st)).bind fun k st => match k with
      | true => (cNx (te ρ1 st)).bind fun y st => (compGo chk t tt te ρ r st).bind fun ys st => .ok (y :: ys) st
      | false => compGo chk t tt te ρ r st
    | none => .bad else .bad
noncomputable def cComp (e : EI) (t : CT) (tt : ET) (te : E) (vs : List Nat) : EL := fun ρ st => (e ρ st).bind fun b st =>
  if b.xs.length ≤ sizeLine then compGo b.chk t tt te (wipeD ρ vs) b.xs st else .bad
def tYesD : ET := fun _ st => .ok true st
/-- the list that grows, which no name holds -/
theorem xt_scratch {K : Frag} {α α' : Nat → Addr} {N N' : Nat} {H H' : Hp} {L : Addr} {ho ho' : HO} (x : Xt K α N H α' N' H') (h0 : H L = none) (hn : ∀ n, n < N' → α' n ≠ L) (h1 : H' L = some ho) (nt : ∀ xs, ho ≠ .tup xs) (nf : ∀ o u, ho ≠ .frz o u) : Xt K α N H α' N' (upd H' L ho') where
  le := x.le
  ag := x.ag
  tup := fun a vs h => sqT_upd (fun xs z => by rw [h1] at z; exact nt xs (Option.some.inj z)) (fun o xs z => by rw [h1] at z; exact nf o _ (Option.some.inj z)) (x.tup a vs h)
  con := fun a vs h => conL_upd (fun o xs z => by rw [h1] at z; exact nf o _ (Option.some.inj z)) (x.con a vs h)
  new := x.new
  keep := fun a o h hne => by rw [upd_ne (ne_of_none h h0)]; exact x.keep a o h hne
  old := fun n hl ho => by
    have := x.old n hl ho
    rw [upd_ne (by rw [← x.ag n hl]; exact hn n (Nat.lt_of_lt_of_le hl x.le))]; exact this
  frz := fun a o u h => by rw [upd_ne (ne_of_none h h0)]; exact x.frz a o u h
theorem lk_scratch {K : Frag} {α : Nat → Addr} {st : Sto} {H : Hp} {L : Addr} {ho ho' : HO} (k : Lk K ca α st H) (hn : ∀ n, n < st.length → α n ≠ L) (h1 : H L = some ho) (nt : ∀ xs, ho ≠ .tup xs) (nf : ∀ o u, ho ≠ .frz o u) : Gr K α st.length H α st.length (upd H L ho') ∧ Lk K ca α st (upd H L ho') := by
  have g : Gr K α st.length H α st.length (upd H L ho') := ⟨Nat.le_refl _, fun _ _ => rfl, fun a vs h => sqT_upd (fun xs z => by rw [h1] at z; exact nt xs (Option.some.inj z)) (fun o xs z => by rw [h1] at z; exact nf o _ (Option.some.inj z)) h,
    fun a vs h => conL_upd (fun o xs z => by rw [h1] at z; exact nf o _ (Option.some.inj z)) h⟩
  exact ⟨g, fun n o h => by
    obtain ⟨x, hx, r⟩ := k.at_ n o h
    exact ⟨x, by rw [upd_ne (hn n (Lk.lt_of h))]; exact hx, r.mono g⟩, k.inj⟩
abbrev W0 : WX := fun _ _ _ _ => False
theorem comp_tLc {e : EI} {t : CT} {tt : ET} {te : E} {own : List (Str × Nat)} {σ : L2.St} {H : Hp} {Q : VK} (hv : ∀ i ∈ t.slots, i ∈ own.map (·.2)) (h : tG X.K ca (relL X.K) W (cComp e t tt te (own.map (·.2))) σ H Q) :
    tLc (tG X.K ca (relI X.K ca) W e) (t.g X.K) (tG X.K ca relB W0 tt) (tG X.K ca (relV X.K) W0 te) (own.map (·.2)) σ H Q := by
  obtain ⟨α, st, ρ, at0, p⟩ := h
  refine tG_next (rel := relI X.K ca) at0 .refl p fun α1 st1 b J H1 a1 _ x1 io p1 => ?_
  intro L hL
  split at p1 <;> try exact p1.elim
  rename_i hz
  have nL : ∀ n, n < st1.length → α1 n ≠ L := fun n hn z => by
    obtain ⟨o, ho⟩ := a1.lk.there hn
    rw [z, hL] at ho; cases ho
  have keyW : ∀ {α' α'' : Nat → Addr} {st' st'' : Sto} {H' H'' : Hp} {accV : List V}, (∀ n, n < st'.length → α' n ≠ L) → H' L = some (.lst accV) → Xt X.K α' st'.length H' α'' st''.length H'' → ∀ n, n < st''.length → α'' n ≠ L := fun {α' α'' st' st'' H' H'' accV} hn hD x n hl z => by
    by_cases h1 : n < st'.length
    · rw [x.ag n h1] at z; exact hn n h1 z
    · have := x.new n (Nat.le_of_not_lt h1) hl
      rw [z, hD] at this; cases this
  have W : ∃ Wv : Nat → Nat → Hp → Prop, Wv = fun i m H' => ∃ α' st' acc accV, At X.K ca α' st' H' ρ σ ∧ Xt X.K α1 st1.length H1 α' st'.length H' ∧ H' L = some (.lst accV) ∧ (∀ n, n < st'.length → α' n ≠ L) ∧ RVs X.K α' st'.length H' acc accV ∧ acc.length ≤ i ∧ m + i = b.xs.length ∧
    Post X.K ca (relL X.K) α st.length H (fun c d H' => W c d σ H') Q ((compGo b.chk t tt te (wipeD ρ (own.map (·.2))) (b.xs.drop i) st').bind fun ys st => .ok (acc ++ ys) st) := ⟨_, rfl⟩
  obtain ⟨Wv, eW⟩ := W
  refine ⟨Wv, ⟨b.xs.length, ?_⟩, ?_⟩
  · rw [eW]
    refine ⟨α1, st1, [], [], a1.later (xt_new hL) (a1.lk.temp hL), xt_new hL, upd_same, nL, .nil, Nat.le_refl _, rfl, ?_⟩
    rw [List.drop_zero]
    have e0 : ∀ r : R (List D), (r.bind fun ys st => .ok ([] ++ ys) st) = r := fun r => by cases r <;> rfl
    rw [e0]
    exact p1
  · intro i m H' hW
    rw [eW] at hW
    obtain ⟨α', st', acc, accV, a', x', hD, nL', ra, hai, hm, q⟩ := hW
    cases hd : b.xs.drop i with
    | nil =>
      rw [hd] at q
      unfold compGo at q
      split at q <;> try exact q.elim
      rename_i ck
      have hl : b.xs.length ≤ i := by simpa using hd
      have hil : i = b.xs.length := by omega
      subst hil
      refine .inl ⟨(io α' st' H' x' a'.lk ck).1, ?_⟩
      rw [R.bind_ok, List.append_nil] at q
      exact q α' H' _ (x1.trans x') a'.lk ⟨L, accV, rfl, x1.fresh hL, hD, ra, nL'⟩
    | cons d r =>
      rw [hd] at q
      unfold compGo at q
      split at q <;> try exact q.elim
      rename_i ck
      have hlt : i < b.xs.length := by
        apply Classical.byContradiction
        intro hn
        rw [List.drop_eq_nil_of_le (Nat.le_of_not_lt hn)] at hd
        cases hd
      have hget : b.xs[i]? = some d := by
        have : (b.xs.drop i)[0]? = some d := by rw [hd]; rfl
        simpa using this
      have hr : b.xs.drop (i + 1) = r := by
        have : (b.xs.drop i).drop 1 = r := by rw [hd]; rfl
        rw [List.drop_drop] at this
        exact this
      obtain ⟨go, yl⟩ := (io α' st' H' x' a'.lk ck).2 i d hget
      cases eg : t.set d (wipeD ρ (own.map (·.2))) with
      | none => rw [eg] at q; exact q.elim
      | some ρ1 =>
        rw [eg] at q
        dsimp only at q
        refine .inr ⟨go, Wv (i + 1) (m - 1), fun H2 h => ⟨m - 1, by omega, h⟩, fun x H2 y => ?_⟩
        obtain ⟨xy, Ly, ry⟩ := yl x H2 y
        have hD2 := xy.keep L _ hD nL'
        have re2 := (a'.re.mono xy.toGr).wipe (own.map (·.2))
        refine CT.ok ry re2 eg hv fun σ2 re3 hw => ⟨hw.trans wipe_wipe, ?_⟩
        refine ⟨α', st', ρ1, ⟨Ly, re3⟩, ?_⟩
        rw [bind_assoc] at q
        revert q
        cases tt ρ1 st' with
        | exc c fs st2 => exact fun q => False.elim q
        | bad => exact fun q => False.elim q
        | ok k st2 =>
          intro q α2 H3 k' x2 L2 ek
          cases ek
          have nL2 := keyW nL' hD2 x2
          have hD3 := x2.keep L _ hD2 nL'
          have xi := (x'.trans xy).trans x2
          cases k with
          | false =>
            rw [if_neg Bool.false_ne_true, eW]
            exact ⟨α2, st2, acc, accV, (a'.later xy Ly).later x2 L2, xi, hD3, nL2, ra.mono (xy.trans x2).toGr, by omega, by omega, by rw [hr]; exact q⟩
          | true =>
            rw [if_pos rfl]
            refine ⟨α2, st2, ρ1, ⟨L2, re3.mono x2.toGr⟩, ?_⟩
            have q : Post X.K ca (relL X.K) α st.length H (fun c d H' => W c d σ H') Q (((cNx (te ρ1 st2)).bind fun y st => (compGo b.chk t tt te (wipeD ρ (own.map (·.2))) r st).bind fun ys st => .ok (y :: ys) st).bind fun ys st => .ok (acc ++ ys) st) := q
            rw [bind_assoc] at q
            revert q
            cases te ρ1 st2 with
            | exc c fs st2 => exact fun q => False.elim q
            | bad => exact fun q => False.elim q
            | ok yd st3 =>
              intro q α3 H4 yv x3 L3 r3
              have nL3 := keyW nL2 hD3 x3
              have hD4 := x3.keep L _ hD3 nL2
              have xi3 := xi.trans x3
              have ra3 := ra.mono ((xy.trans x2).trans x3).toGr
              refine ⟨accV, hD4, by rw [← ra3.length]; omega, ?_⟩
              obtain ⟨g5, L5⟩ := lk_scratch (ho' := .lst (accV ++ [yv])) L3 nL3 hD4 (fun _ z => by cases z) (fun _ _ z => by cases z)
              have x5 := xt_scratch (ho' := .lst (accV ++ [yv])) xi3 hL nL3 hD4 (fun _ z => by cases z) (fun _ _ z => by cases z)
              rw [eW]
              refine ⟨α3, st3, acc ++ [yd], accV ++ [yv], ⟨L5, (((a'.re.mono xy.toGr).mono x2.toGr).mono x3.toGr).mono g5⟩, x5, upd_same, nL3, (ra3.append (.cons r3 .nil)).mono g5, by rw [List.length_append]; show _ + 1 ≤ _; omega, by omega, ?_⟩
              have e1 : ∀ ys : List D, acc ++ [yd] ++ ys = acc ++ yd :: ys := fun ys => by simp
              have q : Post X.K ca (relL X.K) α st.length H (fun c d H' => W c d σ H') Q (((compGo b.chk t tt te (wipeD ρ (own.map (·.2))) r st3).bind fun ys st => .ok (yd :: ys) st).bind fun ys st => .ok (acc ++ ys) st) := q
              rw [bind_assoc] at q
              rw [hr]
              simp only [e1]
              exact q
theorem ql_comp {elt iter : Expr} {ifs : List Expr} {scope : Scope} {own : List (Str × Nat)} {e : EI} {t : CT} {tt : ET} {te : E} (hc : X.calm = true) (hN : X.N.Nodup) (hi : QI X ca W tg iter e) (ok : BlkOk X.N X.env.scope scope own)
    (hg : ∀ (s : Shared) (H : Hp) (C : Addr) (cl : List (Str × Addr)) (fp : List Addr), PG (X.blk s H scope (compEnvC scope cl C X.env) fp) tg (t.g X.K))
    (ht : ∀ (s : Shared) (H : Hp) (C : Addr) (cl : List (Str × Addr)) (fp : List Addr), PTs (X.blk s H scope (compEnvC scope cl C X.env) fp) ifs (tG X.K ca relB W0 tt))
    (he : ∀ (s : Shared) (H : Hp) (C : Addr) (cl : List (Str × Addr)) (fp : List Addr), QE (X.blk s H scope (compEnvC scope cl C X.env) fp) ca W0 elt te)
    (hv : ∀ i ∈ t.slots, i ∈ own.map (·.2)) (hs : ∀ x, foldedSetIterable iter X.env x = pure x := by intro _; rfl) :
    QL X ca W (.ListComp elt [⟨tg, iter, ifs, 0⟩] scope pos) (cComp e t tt te (own.map (·.2))) :=
  peW (pe_lc (te := tG X.K ca (relV X.K) W0 te) hc hN hi ok hg ht he hs) fun σ H Q h => comp_tLc hv h
/-- y = [..], y a plain name -/
theorem qf_setLc (i : Nat) {y : Str} {py spos : Pos} {elt iter : Expr} {ifs : List Expr} {scope : Scope} {own : List (Str × Nat)} {e : EI} {t : CT} {tt : ET} {te : E} (hc : X.calm = true) (hN : X.N.Nodup) (hi : QI X ca W tg iter e) (ok : BlkOk X.N X.env.scope scope own)
    (hg : ∀ (s : Shared) (H : Hp) (C : Addr) (cl : List (Str × Addr)) (fp : List Addr), PG (X.blk s H scope (compEnvC scope cl C X.env) fp) tg (t.g X.K))
    (ht : ∀ (s : Shared) (H : Hp) (C : Addr) (cl : List (Str × Addr)) (fp : List Addr), PTs (X.blk s H scope (compEnvC scope cl C X.env) fp) ifs (tG X.K ca relB W0 tt))
    (he : ∀ (s : Shared) (H : Hp) (C : Addr) (cl : List (Str × Addr)) (fp : List Addr), QE (X.blk s H scope (compEnvC scope cl C X.env) fp) ca W0 elt te)
    (hv : ∀ i ∈ t.slots, i ∈ own.map (·.2)) (hy : X.N[i]? = some y := by rfl) (hyl : X.env.scope.names.lookup y = some .local := by rfl)
    (hsw : swapsWith (.ListComp elt [⟨tg, iter, ifs, 0⟩] scope pos) (some (.Name y py)) spos.line X.env = pure true := by exact sw_true rfl rfl rfl (by decide +kernel)) (hs : ∀ x, foldedSetIterable iter X.env x = pure x := by intro _; rfl) :
    QF X ca W (.Assign [.Name y py] (.ListComp elt [⟨tg, iter, ifs, 0⟩] scope pos) spos) (sSet i (cNew (cComp e t tt te (own.map (·.2))))) :=
  psW (ps_setLc (te := tG X.K ca (relV X.K) W0 te) hc hN hy hyl hsw hi ok hg ht he hs) fun E σ H ⟨α, st, ρ, at0, p⟩ => by
    refine comp_tLc (Q := fun v H' => gName i v σ H' E.nx) hv (W := W) ⟨α, st, ρ, at0, ?_⟩
    have p : FPost X.K ca α st.length H W E (fE ((cComp e t tt te (own.map (·.2)) ρ st).bind fun xs st => .ok (.loc st.length) (st ++ [.lst xs])) ρ fun d st => .nx (ρ.set i (some d)) st) := p
    revert p
    cases cComp e t tt te (own.map (·.2)) ρ st with
    | exc c fs st' => exact fun p α' H' dd x L xd => p α' H' σ dd x (at0.later x L) xd
    | bad => exact fun p => p
    | ok xs st' =>
      intro p α' H' g x L ⟨l, vs, eg, hf, hl, r, hn⟩
      subst eg
      obtain ⟨L2, x2⟩ := L.adopt hl hn (.lst r) x hf
      refine p _ H' _ x2 ⟨L2, ?_⟩
      have g2 : Gr X.K α st.length H (ext α' st'.length l) (st' ++ [O.lst xs]).length H' := x2.toGr
      have rv : RV X.K (ext α' st'.length l) (st' ++ [O.lst xs]).length H' (.loc st'.length) (.ref l) := by
        have e : V.ref l = V.ref (ext α' st'.length l st'.length) := by rw [ext_at]
        rw [e]
        exact .loc (by simp)
      exact (at0.re.mono g2).set rv i
end
end PM

set_option Elab.async false
set_option linter.all false
set_option maxRecDepth 100000
set_option maxHeartbeats 4000000
/-! PM7: defs, calls, classes, errors. -/
namespace PM
open PySem PySem.Spec PyProof.Rows L2

mutual
/-- no object from N on is named -/
def below (N : Nat) : D → Bool
  | .non => true | .bl _ => true | .int _ => true | .str _ => true
  | .tup xs => belowAll N xs
  | .con xs => belowAll N xs
  | .loc n => decide (n < N)
def belowAll (N : Nat) : List D → Bool
  | [] => true
  | x :: xs => below N x && belowAll N xs
end
mutual
theorem RV.low {K : Frag} {α : Nat → Addr} {N N' : Nat} {H : Hp} : ∀ {d : D} {v : V}, RV K α N' H d v → below N d = true → RV K α N H d v
  | _, _, .non, _ => .non
  | _, _, .bl b, _ => .bl b
  | _, _, .int i, _ => .int i
  | _, _, .str s, _ => .str s
  | _, _, .tup h r, e => .tup h (RVs.low r e)
  | _, _, .con h r, e => .con h (RVs.low r e)
  | _, _, .loc _, e => .loc (of_decide_eq_true e)
theorem RVs.low {K : Frag} {α : Nat → Addr} {N N' : Nat} {H : Hp} : ∀ {d : List D} {v : List V}, RVs K α N' H d v → belowAll N d = true → RVs K α N H d v
  | _, _, .nil, _ => .nil
  | _, _, .cons h r, e => .cons (RV.low h (Bool.and_eq_true _ _ |>.mp e).1) (RVs.low r (Bool.and_eq_true _ _ |>.mp e).2)
end
mutual
theorem RV.bel {K : Frag} {α : Nat → Addr} {N : Nat} {H : Hp} : ∀ {d : D} {v : V}, RV K α N H d v → below N d = true
  | _, _, .non => rfl
  | _, _, .bl _ => rfl
  | _, _, .int _ => rfl
  | _, _, .str _ => rfl
  | _, _, .tup _ r => RVs.bel r
  | _, _, .con _ r => RVs.bel r
  | _, _, .loc h => decide_eq_true h
theorem RVs.bel {K : Frag} {α : Nat → Addr} {N : Nat} {H : Hp} : ∀ {d : List D} {v : List V}, RVs K α N H d v → belowAll N d = true
  | _, _, .nil => rfl
  | _, _, .cons h r => Bool.and_eq_true _ _ |>.mpr ⟨RV.bel h, RVs.bel r⟩
end
theorem RKs.low {K : Frag} {α : Nat → Addr} {N N' : Nat} {H : Hp} {κ : Type} : ∀ {d : List (κ × D)} {v w : List (κ × V)}, RKs K α N' H d v → RKs K α N H d w → RKs K α N H d v
  | _, _, _, .nil, .nil => .nil
  | _, _, _, .cons h r, .cons h' r' => .cons (h.low h'.bel) (RKs.low r r')
theorem RKs.low2 {K : Frag} {α α0 : Nat → Addr} {N N' : Nat} {H H0 : Hp} {κ : Type} : ∀ {d : List (κ × D)} {v w : List (κ × V)}, RKs K α N' H d v → RKs K α0 N H0 d w → RKs K α N H d v
  | _, _, _, .nil, .nil => .nil
  | _, _, _, .cons h r, .cons h' r' => .cons (h.low h'.bel) (RKs.low2 r r')
theorem RO.low {K : Frag} {ca : Nat → Addr} {α α0 : Nat → Addr} {N N' : Nat} {H H0 : Hp} {o : O} {ho ho0 : HO} (r : RO K ca α N' H o ho) (r0 : RO K ca α0 N H0 o ho0) : RO K ca α N H o ho := by
  cases r with
  | lst r => cases r0 with | lst r0 => exact .lst (r.low r0.bel)
  | dct r => cases r0 with | dct r0 => exact .dct (r.low2 r0)
  | fdc r => cases r0 with | fdc r0 => exact .fdc (r.low2 r0)
  | dtt r => cases r0 with | dtt r0 => exact .dtt (r.low2 r0)
  | ins r => cases r0 with | ins r0 => exact .ins (r.low2 r0)
/-- objects that nobody can name any more are let go -/
theorem gc_ok {K : Frag} {ca : Nat → Addr} {α α' : Nat → Addr} {st st' : Sto} {H H' : Hp} (L : Lk K ca α st H) (x : Xt K α st.length H α' st'.length H') (L' : Lk K ca α' st' H') (pre : st <+: st') :
    Xt K α st.length H α' st.length H' ∧ Lk K ca α' st H' := by
  obtain ⟨g, rfl⟩ := pre
  refine ⟨⟨⟨Nat.le_refl _, x.ag, x.tup, x.con⟩, fun n h h' => absurd h' (Nat.not_lt.mpr h), x.keep, x.old, x.frz⟩, fun n o h => ?_, fun i j hi hj e => L'.inj i j (by simp; omega) (by simp; omega) e⟩
  have hn := Lk.lt_of h
  obtain ⟨ho, h1, r1⟩ := L'.at_ n o (by rw [List.getElem?_append_left hn]; exact h)
  obtain ⟨ho0, h0, r0⟩ := L.at_ n o h
  exact ⟨ho, h1, r1.low r0⟩
open Classical in
noncomputable def gcR (st : Sto) : R D → R D
  | .ok d st' => if st <+: st' ∧ below st.length d = true then .ok d st else .ok d st'
  | .exc c fs st' => if st <+: st' ∧ fs = [] then .exc c fs st else .exc c fs st'
  | .bad => .bad
/-- a def's mirror, by its body's -/
def outR : F → R D
  | .nx _ st => .ok .non st
  | .rt d st => .ok d st
  | .exc c fs _ st => .exc c fs st
  | _ => .bad
noncomputable def mDef (n : Nat) (s : S) (ds : List D) (st : Sto) : R D := gcR st (outR (s (ds.map some ++ List.replicate (n - ds.length) none) st))
abbrev M := List D → Sto → R D

/-- the promise of a def whose mirror is m -/
def spOf (K : Frag) (ca : Nat → Addr) (n : Nat) (m : M) : Sp := fun vs H Q E => vs.length = n ∧ ∃ α st ds, Lk K ca α st H ∧ RVs K α st.length H ds vs ∧ Post K ca (relV K) α st.length H E Q (m ds st)
/-- a def of the module, by its name -/
def Fn (P : Program) (w : World) (K : Frag) (mg : Str → Option Value) (base : Heap) (ca : Nat → Addr) (k : Nat) (x : Str) (ps : List Str) (m : M) : Prop :=
  ∃ f fd, mg x = some (.ref f) ∧ PySem.W.keepIn K (.ref f) = true ∧ Binds K fd ps [] ∧ FnOk P w K mg base (L2.CX P w) k f fd ps (spOf K ca ps.length m)
/-- a method of class c -/
def Md (P : Program) (w : World) (K : Frag) (mg : Str → Option Value) (base : Heap) (ca : Nat → Addr) (k : Nat) (c : Nat) (x : Str) (ps : List Str) (m : M) : Prop :=
  ∃ f fd, Cls K (ca c) ∧ Meth K (ca c) x f ∧ Binds K fd ps [] ∧ FnOk P w K mg base (L2.CX P w) k f fd ps (spOf K ca ps.length m)
/-- a class that is called: its __init__ -/
def Cm (P : Program) (w : World) (K : Frag) (mg : Str → Option Value) (base : Heap) (ca : Nat → Addr) (k : Nat) (c : Nat) (x : Str) (ps : List Str) (m : M) : Prop :=
  ∃ f fd, mg x = some (.ref (ca c)) ∧ Mk K (ca c) f ∧ Binds K fd ps [] ∧ FnOk P w K mg base (L2.CX P w) k f fd ps (spOf K ca ps.length m)

section
variable {P : Program} {w : World} {K : Frag} {mg : Str → Option Value} {base : Heap} {ca : Nat → Addr}
/-- THE RULE for a def: its body's derivation -/
theorem fn_ok {x qual : Str} {st : Stmt} {f : Addr} {fd : FuncData} {N ps : List Str} {k : Nat} {s : S} (Fx : Fun K x qual st f fd) (sc : FnScope N ps (defScope st))
    (hb : ∀ (cdv : Value) (A : Around) (outer : List PySem.Env) (s0 : Shared) (H : Hp) (E : XK), Room k (A.deeper (envOfC qual (defScope st) s0.heap.objs.size f cdv)) →
      Ok (cxOf (L2.CX P w) P w K mg base N qual (defScope st) f cdv A outer s0 H E) (fun c d _ H => E c d H) →
      QFs (cxOf (L2.CX P w) P w K mg base N qual (defScope st) f cdv A outer s0 H E) ca (fun c d _ H => E c d H) (defBody st) s) :
    FnOk P w K mg base (L2.CX P w) (k + 1) f fd ps (spOf K ca ps.length (mDef N.length s)) := by
  refine Fx.okX sc (fun vs H Q E h => h.1) fun cdv A outer s0 H vs Q E hr h => ?_
  obtain ⟨hl, α, st, ds, L, r, p⟩ := h
  refine ⟨_, hb cdv A outer s0 H E hr ⟨takes_of rfl rfl rfl rfl, passes_of (K := fun e s' => L2.CX P w outer H s0 E e s') rfl, rfl⟩, ?_⟩
  have hds : ds.length = vs.length := r.length
  refine ⟨α, st, ds.map some ++ List.replicate (N.length - ds.length) none, ⟨L, ?_⟩, ?_⟩
  · unfold L2.start
    rw [hds]
    exact RE.start r _
  · unfold mDef at p
    revert p
    cases s (ds.map some ++ List.replicate (N.length - ds.length) none) st with
    | nx ρ st' =>
      intro p α' H' σ' x a
      simp only [outR, gcR] at p
      split at p
      · rename_i h
        obtain ⟨x2, L2⟩ := gc_ok L x a.lk h.1
        exact p α' H' .non x2 L2 .non
      · exact p α' H' .non x a.lk .non
    | rt d st' =>
      intro p α' H' v x L' rv
      simp only [outR, gcR] at p
      split at p
      · rename_i h
        obtain ⟨x2, L2⟩ := gc_ok L x L' h.1
        exact p α' H' v x2 L2 (rv.low h.2)
      · exact p α' H' v x L' rv
    | exc c fs ρ st' =>
      intro p α' H' σ' dd x a xd
      simp only [outR, gcR] at p
      split at p
      · rename_i h
        obtain ⟨x2, L2⟩ := gc_ok L x a.lk h.1
        refine p α' H' dd x2 L2 ?_
        obtain ⟨_, rfl⟩ := h
        rcases xd with ⟨_, e⟩ | ⟨d, gs, e1, e2, r⟩
        · exact .inl ⟨rfl, e⟩
        · cases r
          exact .inr ⟨d, _, e1, e2, .nil⟩
      · exact p α' H' dd x a.lk xd
    | bk _ _ => exact fun p => False.elim p
    | ct _ _ => exact fun p => False.elim p
    | bad => exact fun p => False.elim p
theorem FnOk.up {k k' : Nat} {f : Addr} {fd : FuncData} {ps : List Str} {m : M} (h : FnOk P w K mg base (L2.CX P w) k f fd ps (spOf K ca ps.length m)) (hk : k ≤ k') : FnOk P w K mg base (L2.CX P w) k' f fd ps (spOf K ca ps.length m) := h.mono hk
theorem Fn.up {k k' : Nat} {x : Str} {ps : List Str} {m : M} (h : Fn P w K mg base ca k x ps m) (hk : k ≤ k') : Fn P w K mg base ca k' x ps m := by
  obtain ⟨f, fd, h1, h2, h3, h4⟩ := h
  exact ⟨f, fd, h1, h2, h3, h4.mono hk⟩
/-- a mirror that tells less -/
def Le (m m' : M) : Prop := ∀ ds st, m ds st = .bad ∨ m ds st = m' ds st
theorem spOf_le {n : Nat} {m m' : M} (h : Le m m') {vs : List V} {H : Hp} {Q : VK} {E : XK} (p : spOf K ca n m vs H Q E) : spOf K ca n m' vs H Q E := by
  obtain ⟨h1, α, st, ds, L, r, p⟩ := p
  refine ⟨h1, α, st, ds, L, r, ?_⟩
  rcases h ds st with e | e
  · rw [e] at p; exact p.elim
  · rw [← e]; exact p
end

section
variable {X : Cx} {ca : Nat → Addr} {W : WX} {a b c o : Expr} {ea eb ec eo : E} {pos : Pos} {es : List Expr} {ees : List E} {x : Str} {p0 apos cpos : Pos} {k : Nat} {ps : List Str} {m : M}
theorem tG_next3 {K : Frag} {β γ β' γ' : Type} {rel : Rel β γ} {rel' : Rel β' γ'} {e : Env → Sto → R β} {f : β → Sto → R β'} {σ : L2.St} {H0 H1 : Hp} {Q : γ' → Hp → Prop} {T : γ → Hp → Prop} {α α0 : Nat → Addr} {st : Sto} {N0 : Nat} {ρ : Env}
    (a : At K ca α st H1 ρ σ) (x : Xt K α0 N0 H0 α st.length H1) (p : Post K ca rel' α0 N0 H0 (fun c d H' => W c d σ H') Q ((e ρ st).bind f))
    (go : ∀ α2 st2 b g H2, e ρ st = .ok b st2 → At K ca α2 st2 H2 ρ σ → Xt K α st.length H1 α2 st2.length H2 → Xt K α0 N0 H0 α2 st2.length H2 → rel H1 α2 st2.length H2 b g → Post K ca rel' α0 N0 H0 (fun c d H' => W c d σ H') Q (f b st2) → T g H2) :
    tG K ca rel W e σ H1 T := by
  refine ⟨α, st, ρ, a, ?_⟩
  cases q : e ρ st with
  | ok b st1 => rw [q] at p; exact fun α1 H2 g x2 L r => go α1 st1 b g H2 q (a.later x2 L) x2 (x.trans x2) r p
  | exc c fs st1 => rw [q] at p; exact fun α1 H2 dd x2 L r => p α1 H2 dd (x.trans x2) L r
  | bad => rw [q] at p; exact p
def cCall (m : M) (es : List E) : E := fun ρ st => (cArgs es ρ st).bind m
theorem sp_of {n : Nat} {σ : L2.St} {H1 : Hp} {α1 α0 : Nat → Addr} {st1 : Sto} {N0 : Nat} {H0 : Hp} {ds : List D} {vs : List V} {Q : VK} (L : Lk X.K ca α1 st1 H1) (x1 : Xt X.K α0 N0 H0 α1 st1.length H1) (r : RVs X.K α1 st1.length H1 ds vs) (hn : ds.length = n)
    (p : Post X.K ca (relV X.K) α0 N0 H0 (fun c d H' => W c d σ H') Q (m ds st1)) : spOf X.K ca n m vs H1 Q (WE W σ) :=
  ⟨by rw [← r.length]; exact hn, α1, st1, ds, L, r, Post.later relV_ok x1 p⟩
theorem qe_call (F : Fn X.prog X.w X.K X.mg X.base ca k x ps m) (hr : Room k X.A) (ok : Ok X W) (ha : QA X ca W (a :: es) (cArgs ees)) (hg : Gl X x) (hn : ees.length = ps.length := by rfl) (hdb : (x == ("__debug__" : Str)) = false := by decide)
    (he : starEach (a :: es) X.env = (false, eval a X.env) :: starEach es X.env := by rfl) (hpl : (backTo pos (starEach es X.env)).any (·.1) = false := by rfl) : QE X ca W (.Call (.Name x p0) (a :: es) [] pos) (cCall m ees) := by
  obtain ⟨f, fd, h1, h2, h3, h4⟩ := F
  exact peW (pe_callS h4 hr hg h1 h2 h3 (fun σ => passAt ok.tk σ) ha hdb he hpl) fun σ H Q ⟨α, st, ρ, at0, p⟩ => tG_next2 at0 .refl p fun α1 st1 ds vs H1 q a1 x1 r1 p1 => sp_of a1.lk x1 r1 ((cArgs_length q).trans hn) p1
theorem pe_callS0 {CX : CXT} {f : Addr} {fd : FuncData} {sp : Sp} {E : L2.St → XK} {p pos : Pos} (F : FnOk X.prog X.w X.K X.mg X.base CX k f fd ps sp) (hr : Room k X.A) (hg : Gl X x) (hm : X.mg x = some (.ref f)) (hk : PySem.W.keepIn X.K (.ref f) = true) (hb : Binds X.K fd ps []) (hx : ∀ σ, PassesAt CX X σ (E σ))
    (hdb : (x == ("__debug__" : Str)) = false := by decide) : PE X (.Call (.Name x p) [] [] pos) (fun σ H Q => sp [] H Q (E σ)) := by
  refine ⟨fun pins s σ H Q I h => ?_⟩
  refine wpAny_Call_Name_kw (ld_glob I hg hm ?_ hdb)
  exact PySem.W.callWith_K0 I.kIn hk (run_fnS (us := []) F hr hb (hx σ) I .nil h)
theorem qe_call0 (F : Fn X.prog X.w X.K X.mg X.base ca k x ps m) (hr : Room k X.A) (ok : Ok X W) (hg : Gl X x) (hn : ([] : List E).length = ps.length := by rfl) (hdb : (x == ("__debug__" : Str)) = false := by decide) : QE X ca W (.Call (.Name x p0) [] [] pos) (cCall m []) := by
  obtain ⟨f, fd, h1, h2, h3, h4⟩ := F
  exact peW (pe_callS0 h4 hr hg h1 h2 h3 (fun σ => passAt ok.tk σ) hdb) fun σ H Q ⟨α, st, ρ, at0, p⟩ => sp_of (ds := []) at0.lk .refl .nil hn p
/-- o.m(..) of class c -/
def cMeth (c : Nat) (x : Str) (m : M) (o : E) (es : List E) : E := fun ρ st => (o ρ st).bind fun d st => match d with
  | .loc n => match st[n]? with
    | some (.ins c' fs) => if c' = c ∧ fs.lookup x = none then (cArgs es ρ st).bind fun ds st => m (d :: ds) st else .bad
    | _ => .bad
  | _ => .bad
theorem pe_methS {CX : CXT} {f C : Addr} {fd : FuncData} {sp : Sp} {E : L2.St → XK} {ta : TE} {t : TA} {pl : Sem Bool} (he : PE X o ta) (c : Cls X.K C) (hm : Meth X.K C x f) (F : FnOk X.prog X.w X.K X.mg X.base CX k f fd ps sp) (hr : Room k X.A) (hb : Binds X.K fd ps []) (hx : ∀ σ, PassesAt CX X σ (E σ)) (ha : PA X (a :: es) t)
    (hst : starEach (a :: es) X.env = (false, eval a X.env) :: starEach es X.env := by rfl) (hpl : (backTo pos (starEach es X.env)).any (·.1) = false := by rfl)
    (ht : eval (.Call (.Attribute o x apos) (a :: es) [] pos) X.env = (do
      let ov ← eval o X.env
      standAt apos.atName
      let (f, first) ← holding [ov] (getMethod ov x pl)
      callWith pos f first (backTo pos (starEach (a :: es) X.env)) (backToKw pos (keywordEach [] X.env))) := by rfl) :
    PE X (.Call (.Attribute o x apos) (a :: es) [] pos) (fun σ H Q => ta σ H fun y H1 => ∃ a dx fs, y = .ref a ∧ H1 a = some (.ins C dx fs) ∧ fs.lookup x = none ∧ t σ H1 fun vs H2 => sp (y :: vs) H2 Q (E σ)) := by
  refine ⟨fun pins s σ H Q I h => ?_⟩
  refine PySem.W.methodCall_KW (pl := pl) (thn (he.run pins s σ H _ I h) fun u s1 ⟨y, H1, I1, rx, a, dx, fs, ex, ea, l, q⟩ => ?_) ht
  subst ex
  obtain rfl : u = Value.ref a := rx
  refine getmeth_ok I1 ea c hm l ?_
  refine PySem.W.callWith_K (first := [.ref a]) (h₀ := X.base) I.ok.mod.kin hm.kp (thn (ha.run pos pins s1 σ H1 _ I1 q) fun us s2 ⟨vs, H2, I2, r, q2⟩ => ⟨I2.kIn, ?_⟩) hst hpl
  exact run_fnS (us := .ref a :: us) (vs := .ref a :: vs) F hr hb (hx σ) I2 (.cons rfl r) q2
theorem pe_methS0 {CX : CXT} {f C : Addr} {fd : FuncData} {sp : Sp} {E : L2.St → XK} {ta : TE} {pl : Sem Bool} (he : PE X o ta) (c : Cls X.K C) (hm : Meth X.K C x f) (F : FnOk X.prog X.w X.K X.mg X.base CX k f fd ps sp) (hr : Room k X.A) (hb : Binds X.K fd ps []) (hx : ∀ σ, PassesAt CX X σ (E σ))
    (ht : eval (.Call (.Attribute o x apos) [] [] pos) X.env = (do
      let ov ← eval o X.env
      standAt apos.atName
      let (f, first) ← holding [ov] (getMethod ov x pl)
      callWith pos f first (backTo pos (starEach [] X.env)) (backToKw pos (keywordEach [] X.env))) := by rfl) :
    PE X (.Call (.Attribute o x apos) [] [] pos) (fun σ H Q => ta σ H fun y H1 => ∃ a dx fs, y = .ref a ∧ H1 a = some (.ins C dx fs) ∧ fs.lookup x = none ∧ sp [y] H1 Q (E σ)) := by
  refine ⟨fun pins s σ H Q I h => ?_⟩
  refine PySem.W.methodCall_KW (pl := pl) (thn (he.run pins s σ H _ I h) fun u s1 ⟨y, H1, I1, rx, a, dx, fs, ex, ea, l, q⟩ => ?_) ht
  subst ex
  obtain rfl : u = Value.ref a := rx
  refine getmeth_ok I1 ea c hm l ?_
  exact PySem.W.callWith_K0 (first := [.ref a]) I1.kIn hm.kp (run_fnS (us := [.ref a]) (vs := [.ref a]) F hr hb (hx σ) I1 (.cons rfl .nil) q)
theorem qe_meth {c : Nat} {pl : Sem Bool} (F : Md X.prog X.w X.K X.mg X.base ca k c x ps m) (hr : Room k X.A) (ok : Ok X W) (ho : QE X ca W o eo) (ha : QA X ca W (a :: es) (cArgs ees)) (hn : (eo :: ees).length = ps.length := by rfl)
    (hst : starEach (a :: es) X.env = (false, eval a X.env) :: starEach es X.env := by rfl) (hpl : (backTo pos (starEach es X.env)).any (·.1) = false := by rfl)
    (ht : eval (.Call (.Attribute o x apos) (a :: es) [] pos) X.env = (do
      let ov ← eval o X.env
      standAt apos.atName
      let (f, first) ← holding [ov] (getMethod ov x pl)
      callWith pos f first (backTo pos (starEach (a :: es) X.env)) (backToKw pos (keywordEach [] X.env))) := by rfl) :
    QE X ca W (.Call (.Attribute o x apos) (a :: es) [] pos) (cMeth c x m eo ees) := by
  obtain ⟨f, fd, h1, h2, h3, h4⟩ := F
  refine peW (pe_methS (E := WE W) ho h1 h2 h4 hr h3 (fun σ => passAt ok.tk σ) ha hst hpl ht) fun σ H Q ⟨α, st, ρ, at0, p⟩ => tG_next (rel := relV X.K) at0 .refl p fun α1 st1 d v H1 a1 _ x1 r1 p1 => ?_
  have r1' := r1
  cases r1 <;> try exact False.elim p1
  dsimp only at p1
  split at p1 <;> try exact p1.elim
  rename_i c' fs e
  split at p1 <;> try exact p1.elim
  rename_i hc
  obtain ⟨rfl, hl⟩ := hc
  obtain ⟨dx, gs, g1, q1⟩ := lk_ins a1.lk e
  refine ⟨_, dx, gs, rfl, g1, ?_, tG_next3 a1 x1 p1 fun α2 st2 ds vs H2 q a2 x2 xb r2 p2 => ?_⟩
  · rcases q1.fld x with ⟨_, e2⟩ | ⟨_, _, e1, _⟩
    · exact e2
    · rw [hl] at e1; cases e1
  · exact sp_of a2.lk xb (.cons (r1'.mono x2.toGr) r2) (by rw [List.length_cons, cArgs_length q]; exact hn) p2
theorem qe_meth0 {c : Nat} {pl : Sem Bool} (F : Md X.prog X.w X.K X.mg X.base ca k c x ps m) (hr : Room k X.A) (ok : Ok X W) (ho : QE X ca W o eo) (hn : ([eo] : List E).length = ps.length := by rfl)
    (ht : eval (.Call (.Attribute o x apos) [] [] pos) X.env = (do
      let ov ← eval o X.env
      standAt apos.atName
      let (f, first) ← holding [ov] (getMethod ov x pl)
      callWith pos f first (backTo pos (starEach [] X.env)) (backToKw pos (keywordEach [] X.env))) := by rfl) :
    QE X ca W (.Call (.Attribute o x apos) [] [] pos) (cMeth c x m eo []) := by
  obtain ⟨f, fd, h1, h2, h3, h4⟩ := F
  refine peW (pe_methS0 (E := WE W) ho h1 h2 h4 hr h3 (fun σ => passAt ok.tk σ) ht) fun σ H Q ⟨α, st, ρ, at0, p⟩ => tG_next (rel := relV X.K) at0 .refl p fun α1 st1 d v H1 a1 _ x1 r1 p1 => ?_
  have r1' := r1
  cases r1 <;> try exact False.elim p1
  dsimp only at p1
  split at p1 <;> try exact p1.elim
  rename_i c' fs e
  split at p1 <;> try exact p1.elim
  rename_i hc
  obtain ⟨rfl, hl⟩ := hc
  obtain ⟨dx, gs, g1, q1⟩ := lk_ins a1.lk e
  refine ⟨_, dx, gs, rfl, g1, ?_, sp_of (ds := [_]) a1.lk x1 (.cons r1' .nil) hn p1⟩
  rcases q1.fld x with ⟨_, e2⟩ | ⟨_, _, e1, _⟩
  · exact e2
  · rw [hl] at e1; cases e1
/-- C(..) -/
def nonTo (n : Nat) : D → Sto → R D
  | .non, st => .ok (.loc n) st
  | _, _ => .bad
def cMake (c : Nat) (m : M) (es : List E) : E := fun ρ st => (cArgs es ρ st).bind fun ds st => (m (.loc st.length :: ds) (st ++ [.ins c []])).bind (nonTo st.length)
theorem run_makeS {CX : CXT} {f C : Addr} {fd : FuncData} {sp : Sp} {E : XK} {pins : List (Addr × Obj)} {σ : L2.St} {H : Hp} {s : Shared} {Q : VK} {us : List Value} {vs : List V} (M : Mk X.K C f) (F : FnOk X.prog X.w X.K X.mg X.base CX k f fd ps sp) (hr : Room (k + 1) X.A) (hb : Binds X.K fd ps [])
    (hx : PassesAt CX X σ E) (I : Inv X pins σ H s) (r : Vals vs us)
    (h : ∀ x dx, H x = none → H dx = none → dx ≠ x → sp (.ref x :: vs) (upd (upd H dx (.own x)) x (.ins C dx [])) (fun v H2 => v = .non ∧ Q (.ref x) H2) E) :
    wpAny (model X.prog X.w) X.A (call (.ref C) us) (EP X pins σ Q) X.xe s := by
  have hq := h (s.heap.objs.size + 1) s.heap.objs.size (I.hok.fresh (Nat.le_succ _)) (I.hok.fresh (Nat.le_refl _)) (Nat.ne_of_lt (Nat.lt_succ_self _))
  have I2 := Inv.made (C := C) I
  have r2 : Vals (V.ref (s.heap.objs.size + 1) :: vs) (Value.ref (s.heap.objs.size + 1) :: us) := .cons rfl r
  have hl : (Value.ref (s.heap.objs.size + 1) :: us).length = ps.length := by
    have e := r2.length
    rw [F.len _ _ _ _ hq] at e
    exact e.symm
  have b := hb _ (Value.ref (s.heap.objs.size + 1) :: us) I2.kIn (by rw [List.append_nil]; exact hl)
  rw [List.append_nil] at b
  refine wpAny_call (make_map (f := f) I.kIn M.makes M.init (beq_iff_eq.mp M.fn) (codeAny_mono (F.run _ X.stack _ _ ⟨Value.ref (s.heap.objs.size + 1) :: us, []⟩ (Value.ref (s.heap.objs.size + 1) :: us) _ _ E (hr.make C us [])
    (I2.env0.make C us []) b r2 hq) fun r s' hq' => ?_))
  cases r with
  | error e => exact hx pins _ _ e s' I2 hq'
  | ok fl =>
    cases fl with
    | ret u =>
      obtain ⟨v, H', I3, rv, ev, q3⟩ := I2.after hq'
      subst ev
      exact ⟨rv, ⟨V.ref (s.heap.objs.size + 1), H', I3, rfl, q3⟩⟩
    | next => exact False.elim hq'
    | brk => exact False.elim hq'
    | cont => exact False.elim hq'
theorem pe_makeS {CX : CXT} {f C : Addr} {fd : FuncData} {sp : Sp} {E : L2.St → XK} {t : TA} (M : Mk X.K C f) (F : FnOk X.prog X.w X.K X.mg X.base CX k f fd ps sp) (hr : Room (k + 1) X.A) (hg : Gl X x) (hm : X.mg x = some (.ref C)) (hb : Binds X.K fd ps []) (hx : ∀ σ, PassesAt CX X σ (E σ))
    (ha : PA X (a :: es) t) (hdb : (x == ("__debug__" : Str)) = false := by decide) (he : starEach (a :: es) X.env = (false, eval a X.env) :: starEach es X.env := by rfl) (hpl : (backTo pos (starEach es X.env)).any (·.1) = false := by rfl) :
    PE X (.Call (.Name x p0) (a :: es) [] pos) (fun σ H Q => t σ H fun vs H1 => ∀ x dx, H1 x = none → H1 dx = none → dx ≠ x → sp (.ref x :: vs) (upd (upd H1 dx (.own x)) x (.ins C dx [])) (fun v H2 => v = .non ∧ Q (.ref x) H2) (E σ)) := by
  refine ⟨fun pins s σ H Q I h => ?_⟩
  refine wpAny_Call_Name_kw (ld_glob I hg hm ?_ hdb)
  refine PySem.W.callWith_K (h₀ := X.base) I.ok.mod.kin M.kp (thn (ha.run pos pins s σ H _ I h) fun us s1 ⟨vs, H1, I1, r, q⟩ => ⟨I1.kIn, ?_⟩) he hpl
  exact run_makeS M F hr hb (hx σ) I1 r q
theorem pe_makeS0 {CX : CXT} {f C : Addr} {fd : FuncData} {sp : Sp} {E : L2.St → XK} (M : Mk X.K C f) (F : FnOk X.prog X.w X.K X.mg X.base CX k f fd ps sp) (hr : Room (k + 1) X.A) (hg : Gl X x) (hm : X.mg x = some (.ref C)) (hb : Binds X.K fd ps []) (hx : ∀ σ, PassesAt CX X σ (E σ))
    (hdb : (x == ("__debug__" : Str)) = false := by decide) :
    PE X (.Call (.Name x p0) [] [] pos) (fun σ H1 Q => ∀ x dx, H1 x = none → H1 dx = none → dx ≠ x → sp [.ref x] (upd (upd H1 dx (.own x)) x (.ins C dx [])) (fun v H2 => v = .non ∧ Q (.ref x) H2) (E σ)) := by
  refine ⟨fun pins s σ H Q I h => ?_⟩
  refine wpAny_Call_Name_kw (ld_glob I hg hm ?_ hdb)
  exact PySem.W.callWith_K0 I.kIn M.kp (run_makeS (us := []) (vs := []) M F hr hb (hx σ) I .nil h)
theorem make_ok {c : Nat} {n : Nat} {σ : L2.St} {H1 : Hp} {α1 α0 : Nat → Addr} {st1 : Sto} {N0 : Nat} {H0 : Hp} {ds : List D} {vs : List V} {Q : VK} (L : Lk X.K ca α1 st1 H1) (x1 : Xt X.K α0 N0 H0 α1 st1.length H1) (r : RVs X.K α1 st1.length H1 ds vs) (hn : ds.length + 1 = n)
    (p : Post X.K ca (relV X.K) α0 N0 H0 (fun c d H' => W c d σ H') Q ((m (.loc st1.length :: ds) (st1 ++ [.ins c []])).bind (nonTo st1.length))) :
    ∀ x dx, H1 x = none → H1 dx = none → dx ≠ x → spOf X.K ca n m (.ref x :: vs) (upd (upd H1 dx (.own x)) x (.ins (ca c) dx [])) (fun v H2 => v = .non ∧ Q (.ref x) H2) (WE W σ) := by
  intro x dx hx hdx hne
  have hx' : upd H1 dx (.own x) x = none := by rw [upd_ne (Ne.symm hne)]; exact hx
  have Ld := L.temp (ho := .own x) hdx
  have xd := xt_new (K := X.K) (α := α1) (N := st1.length) (ho := .own x) hdx
  obtain ⟨L2, x2⟩ := Ld.alloc hx' (o := .ins c []) (.ins (dx := dx) .nil)
  have xx := (x1.trans xd).trans x2
  refine ⟨by rw [List.length_cons, ← r.length]; exact hn, ext α1 st1.length x, st1 ++ [.ins c []], .loc st1.length :: ds, L2, .cons ?_ (r.mono (xd.trans x2).toGr), ?_⟩
  · have e : V.ref x = V.ref (ext α1 st1.length x st1.length) := by rw [ext_at]
    rw [e]
    exact .loc (by simp)
  · have p := Post.later relV_ok xx p
    revert p
    cases m (.loc st1.length :: ds) (st1 ++ [.ins c []]) with
    | ok d st' =>
      intro p α' H' g x3 L3 r3
      cases r3 <;> try exact False.elim p
      refine ⟨rfl, p α' H' _ x3 L3 ?_⟩
      have e : V.ref x = V.ref (α' st1.length) := by rw [x3.ag st1.length (by simp), ext_at]
      rw [e]
      exact .loc (Nat.lt_of_lt_of_le (by simp) x3.le)
    | exc c fs st' => exact fun p => p
    | bad => exact fun p => p
theorem qe_make {c : Nat} (F : Cm X.prog X.w X.K X.mg X.base ca k c x ps m) (hr : Room (k + 1) X.A) (ok : Ok X W) (ha : QA X ca W (a :: es) (cArgs ees)) (hg : Gl X x) (hn : ees.length + 1 = ps.length := by rfl) (hdb : (x == ("__debug__" : Str)) = false := by decide)
    (he : starEach (a :: es) X.env = (false, eval a X.env) :: starEach es X.env := by rfl) (hpl : (backTo pos (starEach es X.env)).any (·.1) = false := by rfl) : QE X ca W (.Call (.Name x p0) (a :: es) [] pos) (cMake c m ees) := by
  obtain ⟨f, fd, h1, h2, h3, h4⟩ := F
  exact peW (pe_makeS (E := WE W) h2 h4 hr hg h1 h3 (fun σ => passAt ok.tk σ) ha hdb he hpl) fun σ H Q ⟨α, st, ρ, at0, p⟩ => tG_next2 at0 .refl p fun α1 st1 ds vs H1 q a1 x1 r1 p1 => make_ok a1.lk x1 r1 (by rw [cArgs_length q]; exact hn) p1
theorem qe_make0 {c : Nat} (F : Cm X.prog X.w X.K X.mg X.base ca k c x ps m) (hr : Room (k + 1) X.A) (ok : Ok X W) (hg : Gl X x) (hn : 1 = ps.length := by rfl) (hdb : (x == ("__debug__" : Str)) = false := by decide) : QE X ca W (.Call (.Name x p0) [] [] pos) (cMake c m []) := by
  obtain ⟨f, fd, h1, h2, h3, h4⟩ := F
  exact peW (pe_makeS0 (E := WE W) h2 h4 hr hg h1 h3 (fun σ => passAt ok.tk σ) hdb) fun σ H Q ⟨α, st, ρ, at0, p⟩ => make_ok (ds := []) at0.lk .refl .nil hn p

/-! ### errors -/
/-- an error class of the program, over ValueError, without own __init__ -/
structure ExC (X : Cx) (ca : Nat → Addr) (c : Nat) (x : Str) : Prop where
  g : X.mg x = some (.ref (ca c))
  q : PySem.W.excIn X.K (ca c) [.type "ValueError", .type "Exception", .type "BaseException", .type "object"] "ValueError.__new__" = true
  k : PySem.W.keepIn X.K (.ref (ca c)) = true
  b : PySem.W.subIn X.K (.ref (ca c)) (.type "BaseException") = some true
  t : PySem.W.typeIn X.K (.ref (ca c)) = some (.type "type")
theorem pmk_own0 {c : Nat} (ex : ExC X ca c x) (hg : Gl X x) (hdb : (x == ("__debug__" : Str)) = false := by decide) : PMk X (.Call (.Name x p0) [] [] pos) (fun _ H Q => Q (.ref (ca c)) none H) := by
  intro pins s σ H Q I h
  refine wpAny_Call_Name_kw (ld_glob I hg ex.g ?_ hdb)
  refine PySem.W.callWith_K0 I.kIn ex.k ?_
  show wpAny _ _ (call (.ref (ca c)) []) _ _ _
  obtain ⟨bm, N, nm, qn, bs, hdct, sn, sub, ab, col, dd, k0, k1, k2, k3, k5, mN, hC, hN, hni, T⟩ := exc_obj I.kIn ex.q
  refine wpAny_call_exc_subT PySem.F.excBase_ValueError T hC hN hni (fun h' e hm => ?_) (by show 0 ≤ sizeLine; exact Nat.zero_le _)
  exact mk_of I hm (raises_own ex.b ex.t) h (I.hok.gone hm.new)
def sRaise (c : Nat) : S := fun ρ st => .exc c [] ρ st
theorem qf_raise0 {c : Nat} {pos' : Pos} (o : Ok X W) (ex : ExC X ca c x) (hg : Gl X x) (hdb : (x == ("__debug__" : Str)) = false := by decide) : QF X ca W (.Raise (some (.Call (.Name x p0) [] [] pos)) none pos') (sRaise c) :=
  psW (ps_raise o.calm o.tk (pmk_own0 ex hg hdb)) fun E σ H ⟨α, st, ρ, at0, p⟩ => p α H σ none .refl at0 (.inl ⟨rfl, rfl⟩)
/-- a suite from which nothing is raised -/
def fNx : F → F
  | .exc _ _ _ _ => .bad
  | f => f
def sTry (mt : Nat → Option Bool) (body h : S) : S := fun ρ st => match body ρ st with
  | .exc c fs ρ' st' => match mt c with
    | some true => fNx (h ρ' st')
    | some false => .exc c fs ρ' st'
    | none => .bad
  | f => f
theorem fNx_ok {K : Frag} {α : Nat → Addr} {N : Nat} {H : Hp} {E : Ends} {f : F} (p : FPost K ca α N H W E (fNx f)) : FPost K ca α N H W0 E f := by
  cases f <;> first | exact p | exact False.elim p
theorem qf_try {body suite : List Stmt} {b₀ : Stmt} {sb sh : S} {np pos' : Pos} {cv : Value} {mt : Nat → Option Bool} (o : Ok X W) (hs : X.stack = X.env :: X.outer) (hf : X.env.frame = some X.env.locals) (hc : Names X x cv) (hm : ∀ c b, mt c = some b → PySem.W.exmOne X.K (.ref (ca c)) cv = some b)
    (hb : ∀ (W' : WX) (pn : List (Addr × Obj)) (xe : Value → Shared → Prop), Ok (X.tr pn xe) W' → QFs (X.tr pn xe) ca W' body sb)
    (hsu : ∀ (a : Addr) (oe : Obj) (cls : Value) (d : Option Addr) (pn : List (Addr × Obj)), QFs (X.suite a ((a, oe) :: pn)) ca W0 (b₀ :: suite) sh) :
    QF X ca W (.Try body [.ExceptHandler (some (.Name x np)) none (b₀ :: suite) pos'] [] [] pos) (sTry mt sb sh) :=
  psW (ps_try_only (tb := fun W' => tF X.K ca W' sb) (ts := fun _ _ _ => tF X.K ca W0 sh) hs hf hc o.tk (fun W' pn xe tk hp => hb W' pn xe ⟨tk, hp, o.calm⟩) (fun a oe cls d pn _ _ => hsu a oe cls d pn)) fun E σ H ⟨α, st, ρ, at0, p⟩ => by
    refine ⟨α, st, ρ, at0, ?_⟩
    unfold sTry at p
    revert p
    cases sb ρ st with
    | nx ρ' st' => exact fun p => p
    | bk ρ' st' => exact fun p => p
    | ct ρ' st' => exact fun p => p
    | rt d st' => exact fun p => p
    | bad => exact fun p => p
    | exc c fs ρ' st' =>
      intro p α' H' σ' dd x' a' xd
      dsimp only at p
      cases em : mt c with
      | none => rw [em] at p; exact p.elim
      | some b =>
        rw [em] at p
        refine ⟨b, hm c b em, fun hb _ _ => ?_, fun hb => ?_⟩
        · subst hb
          exact ⟨α', st', ρ', a', (fNx_ok p).later x'⟩
        · subst hb
          exact p α' H' σ' dd x' a' xd
end
end PM

set_option Elab.async false
set_option linter.all false
set_option maxRecDepth 100000
set_option maxHeartbeats 4000000
/-! PM8: in, dicts. -/
namespace PM
open PySem PySem.Spec PyProof.Rows L2
section
variable {X : Cx} {ca : Nat → Addr} {W : WX} {a b c o : Expr} {ea eb ec eo : E} {pos : Pos} {es : List Expr} {x : Str} {p0 apos cpos : Pos}

/-! ### in -/
def flatD : D → Bool
  | .non => true | .bl _ => true | .int _ => true | .str _ => true
  | _ => false
/-- == of flat values -/
def eqF : D → D → Bool
  | .non, .non => true
  | .bl a, .bl b => a == b
  | .bl a, .int b => (if a then 1 else 0) == b
  | .int a, .bl b => a == (if b then 1 else 0)
  | .int a, .int b => a == b
  | .str a, .str b => a == b
  | _, _ => false
theorem flatD_ok {K : Frag} {α : Nat → Addr} {N : Nat} {H : Hp} {d : D} {v : V} (r : RV K α N H d v) (h : flatD d = true) : flatV v = true := by cases r <;> first | rfl | cases h
theorem flatAll_ok {K : Frag} {α : Nat → Addr} {N : Nat} {H : Hp} : ∀ {d : List D} {v : List V}, RVs K α N H d v → d.all flatD = true → v.all flatV = true
  | _, _, .nil, _ => rfl
  | _, _, .cons h r, e => by
    rw [List.all_cons, Bool.and_eq_true] at e ⊢
    exact ⟨flatD_ok h e.1, flatAll_ok r e.2⟩
theorem eqF_ok {K : Frag} {α : Nat → Addr} {N : Nat} {H : Hp} {d e : D} {v u : V} (r : RV K α N H d v) (q : RV K α N H e u) (h : flatD d = true) (h' : flatD e = true) : eqV v u = eqF d e := by
  cases r <;> first | exact absurd h Bool.false_ne_true | (cases q <;> first | exact absurd h' Bool.false_ne_true | rfl)
theorem inF_ok {K : Frag} {α : Nat → Addr} {N : Nat} {H : Hp} {d : D} {v : V} (r : RV K α N H d v) (h : flatD d = true) : ∀ {ds : List D} {vs : List V}, RVs K α N H ds vs → ds.all flatD = true → inV v vs = ds.any fun y => eqF y d
  | _, _, .nil, _ => rfl
  | _, _, .cons h1 r1, e => by
    rw [List.all_cons, Bool.and_eq_true] at e
    unfold inV
    rw [List.any_cons, List.any_cons, eqF_ok h1 r e.1 h]
    exact congrArg _ (inF_ok r h r1 e.2)
/-- whether x is among xs, where that is told; t: the sequence is a tuple -/
def inSeq (x : D) (xs : List D) : Option Bool :=
  if (flatD x && xs.all flatD) = true then some (xs.any fun y => eqF y x) else
  match pd x, pdAll xs with
  | some a, some ds => if SeqAt.shaped a = true ∧ PyData.canLayAll0 ds = true then some (ds.any fun z => PyData.eqv z a) else none
  | _, _ => none
def inO (x y : D) (st : Sto) : Option Bool := match y with
  | .tup xs => inSeq x xs
  | .con xs => inSeq x xs
  | .str z => match x with
    | .str t => some (!(Builtin.Str.occurrences z t 0 z.length 1).isEmpty)
    | _ => none
  | .loc n => match st[n]? with
    | some (.lst xs) => inSeq x xs
    | some (.dct kvs) => (keyD x).map fun k => (valD kvs k).isSome
    | some (.fdc kvs) => (keyD x).map fun k => (valD kvs k).isSome
    | _ => none
  | _ => none
def inD : D → D → Sto → R D := fun x y st => match inO x y st with
  | some b => .ok (.bl b) st
  | none => .bad
def notInD : D → D → Sto → R D := fun x y st => match inO x y st with
  | some b => .ok (.bl (!b)) st
  | none => .bad
theorem room_in {A : Around} {d : PyData} {ds : List PyData} (h : SeqAt.shaped d = true) (hu : A.units + 65 < cLine) : A.units + 1 + min (PyData.depthAll ds) d.depth < cLine := by
  have h1 := SeqAt.depth_of_shaped h
  have h2 : min (PyData.depthAll ds) d.depth ≤ d.depth := Nat.min_le_right _ _
  omega
/-- the four ways of in, by values -/
def rInAny (K : Frag) (neg : Bool) : R2 := fun x y H Q => rIn K neg x y H Q ∨
  (∃ d ds, Dp K H x d ∧ (Dp K H y (.list ds) ∨ Dp K H y (.tuple ds)) ∧ SeqAt.shaped d = true ∧ PyData.canLayAll0 ds = true ∧ Q (.bl (neg ^^ ds.any fun z => PyData.eqv z d)) H) ∨
  (∃ i j, x = .str i ∧ y = .str j ∧ Q (.bl (neg ^^ !(Builtin.Str.occurrences j i 0 j.length 1).isEmpty)) H) ∨
  (∃ a ov, y = .ref a ∧ DGet H a x ov ∧ Q (.bl (neg ^^ ov.isSome)) H)
theorem op_inAny (hu : X.A.units + 65 < cLine) : OpR X (compareOp .In) (rInAny X.K false) := by
  intro pins s σ H x y v u Q I rx ry h
  rcases h with h | ⟨d, ds, hd, he, sd, se, q⟩ | ⟨i, j, rfl, rfl, q⟩ | ⟨a, ov, rfl, g, q⟩
  · exact op_in_seq pins s σ H x y v u Q I rx ry h
  · obtain ⟨as, r1⟩ := Dp.reads I d x v hd rx
    rw [Bool.false_xor] at q
    rcases he with he | he
    · obtain ⟨bs, r2⟩ := Dp.reads I _ y u he ry
      exact SeqAt.in_list_reads r2 r1 se (SeqAt.canLay_of_shaped sd) (room_in sd hu) ⟨.bl _, H, I, rfl, q⟩
    · obtain ⟨bs, r2⟩ := Dp.reads I _ y u he ry
      exact SeqAt.in_tuple_reads r2 r1 se (SeqAt.canLay_of_shaped sd) (room_in sd hu) ⟨.bl _, H, I, rfl, q⟩
  · rw [Bool.false_xor] at q
    exact op_in_str pins s σ H _ _ v u Q I rx ry ⟨i, j, rfl, rfl, q⟩
  · rw [Bool.false_xor] at q
    cases ry
    exact d_in (by omega) I g rx fun s' I' => ⟨.bl _, H, I', rfl, q⟩
theorem op_notInAny (hu : X.A.units + 65 < cLine) : OpR X (compareOp .NotIn) (rInAny X.K true) := by
  intro pins s σ H x y v u Q I rx ry h
  rcases h with h | ⟨d, ds, hd, he, sd, se, q⟩ | ⟨i, j, rfl, rfl, q⟩ | ⟨a, ov, rfl, g, q⟩
  · exact op_notIn_seq pins s σ H x y v u Q I rx ry h
  · obtain ⟨as, r1⟩ := Dp.reads I d x v hd rx
    rw [Bool.true_xor] at q
    rcases he with he | he
    · obtain ⟨bs, r2⟩ := Dp.reads I _ y u he ry
      exact SeqAt.notIn_list_reads r2 r1 se (SeqAt.canLay_of_shaped sd) (room_in sd hu) ⟨.bl _, H, I, rfl, q⟩
    · obtain ⟨bs, r2⟩ := Dp.reads I _ y u he ry
      exact SeqAt.notIn_tuple_reads r2 r1 se (SeqAt.canLay_of_shaped sd) (room_in sd hu) ⟨.bl _, H, I, rfl, q⟩
  · rw [Bool.true_xor] at q
    exact op_notin_str pins s σ H _ _ v u Q I rx ry ⟨i, j, rfl, rfl, q⟩
  · rw [Bool.true_xor] at q
    cases ry
    exact d_notIn (by omega) I g rx fun s' I' => ⟨.bl _, H, I', rfl, q⟩
theorem inSeq_ok {K : Frag} {α : Nat → Addr} {N : Nat} {H : Hp} {d : D} {v : V} {xs : List D} {p : Addr} {vs : List V} {k neg : Bool} {Q : VK} (r1 : RV K α N H d v) (h : SqL K H p vs ∨ SqT K H p vs) (r : RVs K α N H xs vs) (e : inSeq d xs = some k) (q : Q (.bl (neg ^^ k)) H) :
    rInAny K neg v (.ref p) H Q := by
  unfold inSeq at e
  split at e
  · rename_i hf
    cases e
    rw [Bool.and_eq_true] at hf
    refine .inl ⟨p, vs, rfl, h, flatD_ok r1 hf.1, flatAll_ok r hf.2, ?_⟩
    rw [inF_ok r1 hf.1 r hf.2]
    cases neg
    · simpa using q
    · simpa using q
  · split at e <;> try cases e
    rename_i a ds e1 e2
    split at e <;> try cases e
    rename_i hz
    exact .inr (.inl ⟨a, ds, pd_ok r1 e1, h.elim (fun h => .inl (.lst h (pdAll_ok r e2))) (fun h => .inr (.tup h (pdAll_ok r e2))), hz.1, hz.2, q⟩)
theorem inO_ok {α : Nat → Addr} {st : Sto} {H : Hp} {dx dy : D} {vx vy : V} {k neg : Bool} {Q : VK} (L : Lk X.K ca α st H) (r1 : RV X.K α st.length H dx vx) (r2 : RV X.K α st.length H dy vy) (e : inO dx dy st = some k) (q : Q (.bl (neg ^^ k)) H) : rInAny X.K neg vx vy H Q := by
  cases r2 <;> try cases e
  · simp only [inO] at e
    split at e <;> try cases e
    cases r1
    exact .inr (.inr (.inl ⟨_, _, rfl, rfl, q⟩))
  · rename_i h r
    exact inSeq_ok r1 (.inr h) r e q
  · rename_i h r
    exact inSeq_ok r1 (.inl h.sq) r e q
  · rename_i n hn
    simp only [inO] at e
    have dk : ∀ {kvs : List (Key × D)} {ks : List (Key × V)}, RKs X.K α st.length H kvs ks → Rd H (α n) (.dK ks) → ((keyD dx).map fun k => (valD kvs k).isSome) = some k → rInAny X.K neg vx (.ref (α n)) H Q := fun {kvs ks} r h e => by
      obtain ⟨k', e1, e2⟩ := Option.map_eq_some_iff.mp e
      refine .inr (.inr (.inr ⟨_, valV ks k', rfl, .inl ⟨ks, k', h, keyD_ok r1 e1, rfl⟩, ?_⟩))
      have : (valV ks k').isSome = k := by
        rw [← e2]
        rcases r.val k' with ⟨z1, z2⟩ | ⟨_, _, z1, z2, _⟩ <;> rw [z1, z2] <;> rfl
      rw [this]
      exact q
    split at e <;> try cases e
    · rename_i xs q1
      obtain ⟨vs, h1, q1⟩ := lk_lst L q1
      exact inSeq_ok r1 (.inl (.inl (.inl h1))) q1 e q
    · rename_i xs q1
      obtain ⟨ho, h1, q1⟩ := L.at_ _ _ q1
      cases q1 with
      | dct q1 => exact dk q1 (.inl h1) e
    · rename_i xs q1
      obtain ⟨ho, h1, q1⟩ := L.at_ _ _ q1
      cases q1 with
      | fdc q1 => exact dk q1 (.inr ⟨_, h1⟩) e
theorem d_in' (hu : X.A.units + 65 < cLine) : OpR X (compareOp .In) (rD2 X.K ca inD) := by
  intro pins s σ H x y v u Q I rx ry ⟨α, st, α0, N0, H0, dx, dy, W, L, xt, r1, r2, p⟩
  unfold inD at p
  cases e : inO dx dy st with
  | none => rw [e] at p; exact p.elim
  | some k =>
    rw [e] at p
    exact op_inAny hu pins s σ H x y v u Q I rx ry (inO_ok L r1 r2 e (by rw [Bool.false_xor]; exact p α H _ xt L (.bl _)))
theorem d_notIn' (hu : X.A.units + 65 < cLine) : OpR X (compareOp .NotIn) (rD2 X.K ca notInD) := by
  intro pins s σ H x y v u Q I rx ry ⟨α, st, α0, N0, H0, dx, dy, W, L, xt, r1, r2, p⟩
  unfold notInD at p
  cases e : inO dx dy st with
  | none => rw [e] at p; exact p.elim
  | some k =>
    rw [e] at p
    exact op_notInAny hu pins s σ H x y v u Q I rx ry (inO_ok L r1 r2 e (by rw [Bool.true_xor]; exact p α H _ xt L (.bl _)))
/-- x in a list in passing -/
def cInL (neg : Bool) (a : E) (b : EL) : E := fun ρ st => (a ρ st).bind fun x st => (b ρ st).bind fun ys st => match inSeq x ys with
  | some k => .ok (.bl (neg ^^ k)) st
  | none => .bad
theorem inL_ok {K : Frag} {e2 : EL} {neg : Bool} {σ : L2.St} {H : Hp} {Q : VK} (h : tG K ca (relV K) W (cInL neg ea e2) σ H Q) : tOp (rInAny K neg) (tG K ca (relV K) W ea) (tG K ca (relS K) W e2) σ H Q := by
  obtain ⟨α, st, ρ, at0, p⟩ := h
  refine tG_next (rel := relV K) at0 .refl p fun α1 st1 d v H1 a1 _ x1 r1 p1 => tG_next a1 x1 p1 fun α2 st2 ys u H2 a2 x2 xb r2 p2 => ?_
  obtain ⟨q, vs, rfl, h, r⟩ := r2
  cases e : inSeq d ys with
  | none => rw [e] at p2; exact p2.elim
  | some k =>
    rw [e] at p2
    exact inSeq_ok (r1.mono x2.toGr) h r e (p2 α2 H2 _ xb a2.lk (.bl _))
theorem qe_inL {e2 : EL} (hu : X.A.units + 65 < cLine) (ha : QE X ca W a ea) (hb : QS X ca W b e2) (hm : behindInMarks .In b = false := by rfl) : QE X ca W (.Compare a [.In] [b] pos) (cInL false ea e2) :=
  peW (pe_cmpR (op_inAny hu) ha hb hm) fun σ H Q h => inL_ok h
theorem qt_inL {e2 : EL} (hu : X.A.units + 65 < cLine) (ha : QE X ca W a ea) (hb : QS X ca W b e2) (hm : behindInMarks .In b = false := by rfl) : QT X ca W (.Compare a [.In] [b] pos) (cTst (cInL false ea e2)) :=
  ptW (pt_cmpR (op_inAny hu) ha hb hm) fun σ H Q h => inL_ok (tG_tst h)
theorem qe_notInL {e2 : EL} (hu : X.A.units + 65 < cLine) (ha : QE X ca W a ea) (hb : QS X ca W b e2) (hm : behindInMarks .NotIn b = false := by rfl) : QE X ca W (.Compare a [.NotIn] [b] pos) (cInL true ea e2) :=
  peW (pe_cmpR (op_notInAny hu) ha hb hm) fun σ H Q h => inL_ok h
theorem qt_notInL {e2 : EL} (hu : X.A.units + 65 < cLine) (ha : QE X ca W a ea) (hb : QS X ca W b e2) (hm : behindInMarks .NotIn b = false := by rfl) : QT X ca W (.Compare a [.NotIn] [b] pos) (cTst (cInL true ea e2)) :=
  ptW (pt_cmpR (op_notInAny hu) ha hb hm) fun σ H Q h => inL_ok (tG_tst h)

/-! ### new dicts -/
/-- a dict in passing -/
def relD (K : Frag) : Rel (List (Key × D)) V := fun H0 α N H xs v => ∃ p vs, v = .ref p ∧ H0 p = none ∧ H p = some (.dK vs) ∧ RKs K α N H xs vs ∧ ∀ n, n < N → α n ≠ p
abbrev ED := Env → Sto → R (List (Key × D))
def QD (X : Cx) (ca : Nat → Addr) (W : WX) (x : Expr) (e : ED) : Prop := PE X x (tG X.K ca (relD X.K) W e)
/-- .. kept -/
def cNewD (e : ED) : E := fun ρ st => (e ρ st).bind fun xs st => .ok (.loc st.length) (st ++ [.dct xs])
theorem qe_newD {e : ED} (h : QD X ca W a e) : QE X ca W a (cNewD e) :=
  peW h fun σ H Q ⟨α, st, ρ, at0, p⟩ => tG_next at0 .refl p fun α1 st1 ds v H1 a1 _ x1 r1 p1 => by
    obtain ⟨p, vs, rfl, h0, h1, r, hn⟩ := r1
    obtain ⟨L2, x2⟩ := a1.lk.adopt h1 hn (.dct r) x1 h0
    refine p1 _ H1 _ x2 L2 ?_
    have e : V.ref p = V.ref (ext α1 st1.length p st1.length) := by rw [ext_at]
    rw [e]
    exact .loc (by simp)
theorem fin_newD {K : Frag} {α α0 : Nat → Addr} {st : Sto} {N0 : Nat} {H H0 : Hp} {W : XK} {Q : VK} {xs : List (Key × D)} {vs : List (Key × V)} {p : Addr} (q : Post K ca (relD K) α0 N0 H0 W Q (.ok xs st)) (xt : Xt K α0 N0 H0 α st.length H) (L : Lk K ca α st H)
    (r : RKs K α st.length H xs vs) (hp : H p = none) : Q (.ref p) (upd H p (.dK vs)) :=
  q α _ _ (xt.trans (xt_new hp)) (L.temp hp) ⟨p, vs, rfl, xt.fresh hp, upd_same, r.mono (xt_new hp).toGr, fun n hn e => by
    obtain ⟨x, hx⟩ := L.there hn
    rw [e, hp] at hx; cases hx⟩
def cD0 : ED := fun _ st => .ok [] st
theorem qd_new : QD X ca W (.Dict [] [] pos) cD0 := peW pe_dnewK fun σ H Q ⟨α, st, ρ, a, p⟩ q hq => fin_newD p .refl a.lk .nil hq
/-- {k: v, ..}, written out -/
def cPairs : List (E × E) → ED
  | [] => fun _ st => .ok [] st
  | (k, v) :: r => fun ρ st => (k ρ st).bind fun x st => (v ρ st).bind fun y st => match keyD x with
    | some k => (cPairs r ρ st).bind fun ps st => .ok ((k, y) :: ps) st
    | none => .bad
def mergeD (kvs more : List (Key × D)) : List (Key × D) := more.foldl (fun acc kv => putD acc kv.1 kv.2) kvs
theorem RKs.merge {K : Frag} {α : Nat → Addr} {N : Nat} {H : Hp} : ∀ {more : List (Key × D)} {rs : List (Key × V)} {kvs : List (Key × D)} {vs : List (Key × V)}, RKs K α N H more rs → RKs K α N H kvs vs → RKs K α N H (mergeD kvs more) (mergeK vs rs)
  | _, _, _, _, .nil, q => q
  | (_, _) :: _, _, _, _, .cons (k := k) h r, q => by
    have := RKs.merge r (q.put k h)
    exact this
inductive QPs (X : Cx) (ca : Nat → Addr) (W : WX) : List (Option Expr) → List Expr → List (E × E) → Prop
  | nil : QPs X ca W [] [] []
  | cons {k v : Expr} {ks : List (Option Expr)} {vs : List Expr} {ek ev : E} {r : List (E × E)} : QE X ca W k ek → QE X ca W v ev → QPs X ca W ks vs r → QPs X ca W (some k :: ks) (v :: vs) ((ek, ev) :: r)
def tOfs (K : Frag) (ca : Nat → Addr) (W : WX) : List (E × E) → List (TE × TE) := List.map fun p => (tG K ca (relV K) W p.1, tG K ca (relV K) W p.2)
theorem QPs.pps {ks : List (Option Expr)} {vs : List Expr} {r : List (E × E)} (h : QPs X ca W ks vs r) : PPs X pos ks vs (tOfs X.K ca W r) := by
  induction h with
  | nil => exact pps_nil
  | cons h1 h2 _ ih => exact pps_cons h1 h2 ih
theorem pairs_ok {K : Frag} : ∀ {r : List (E × E)} {σ : L2.St} {H0 H1 : Hp} {Q : VK} {T : List (V × V) → Hp → Prop} {α α0 : Nat → Addr} {st : Sto} {N0 : Nat} {ρ : Env} {f : List (Key × D) → Sto → R (List (Key × D))}, At K ca α st H1 ρ σ → Xt K α0 N0 H0 α st.length H1 →
    Post K ca (relD K) α0 N0 H0 (fun c d H' => W c d σ H') Q ((cPairs r ρ st).bind f) →
    (∀ α2 st2 ps vs H2, At K ca α2 st2 H2 ρ σ → Xt K α st.length H1 α2 st2.length H2 → RKs K α2 st2.length H2 ps vs → ps.length = r.length → Post K ca (relD K) α0 N0 H0 (fun c d H' => W c d σ H') Q (f ps st2) → T (vs.map fun kv => (kV kv.1, kv.2)) H2) →
    tPairs (tOfs K ca W r) σ H1 T
  | [], σ, H0, H1, Q, T, α, α0, st, N0, ρ, f, a, x, p, go => go α st [] [] H1 a .refl .nil rfl p
  | (k, v) :: r, σ, H0, H1, Q, T, α, α0, st, N0, ρ, f, a, x, p, go => by
    simp only [cPairs] at p
    rw [bind_assoc] at p
    refine tG_next (rel := relV K) a x p fun α1 st1 d1 v1 H2 a1 x1 xb1 r1 p1 => ?_
    rw [bind_assoc] at p1
    refine tG_next (rel := relV K) a1 xb1 p1 fun α2 st2 d2 v2 H3 a2 x2 xb2 r2 p2 => ?_
    cases e : keyD d1 with
    | none => rw [e] at p2; exact p2.elim
    | some kk =>
      rw [e] at p2
      dsimp only at p2
      rw [bind_assoc] at p2
      refine pairs_ok (r := r) a2 xb2 p2 fun α3 st3 ps vs H4 a3 x3 r3 hl p3 => ?_
      have e1 := keyD_ok r1 e
      subst e1
      exact go α3 st3 ((kk, d2) :: ps) ((kk, v2) :: vs) H4 a3 ((x1.trans x2).trans x3) (.cons (r2.mono x3.toGr) r3) (by rw [List.length_cons, List.length_cons, hl]) p3
def cDisp (r : List (E × E)) : ED := fun ρ st => (cPairs r ρ st).bind fun ps st => .ok (mergeD [] ps) st
theorem qd_disp {ks : List (Option Expr)} {vs : List Expr} {r : List (E × E)} (h : QPs X ca W ks vs r) (hall : ks.all (·.isSome) = true := by rfl) (hl : ks.length = vs.length := by rfl) (h0 : ks ≠ [] := by intro z; cases z) (h15 : ks.length ≤ 15 := by decide) (h16 : r.length ≤ 15 := by decide) : QD X ca W (.Dict ks vs pos) (cDisp r) :=
  peW (pe_disp h.pps hall hl h0 h15) fun σ H Q ⟨α, st, ρ, at0, p⟩ q hq => by
    have nL : ∀ n, n < st.length → α n ≠ q := fun n hn z => by
      obtain ⟨o, ho⟩ := at0.lk.there hn
      rw [z, hq] at ho; cases ho
    have x0 := xt_new (K := X.K) (α := α) (N := st.length) (ho := .dK []) hq
    refine pairs_ok (at0.later x0 (at0.lk.temp hq)) x0 p fun α2 st2 ps vs H2 a2 x2 r2 hlp p2 => ?_
    have hq2 := x2.keep q _ upd_same nL
    have nL2 : ∀ n, n < st2.length → α2 n ≠ q := fun n hl z => by
      by_cases h1 : n < st.length
      · rw [x2.ag n h1] at z; exact nL n h1 z
      · have := x2.new n (Nat.le_of_not_lt h1) hl
        rw [z, upd_same] at this; cases this
    refine ⟨hq2, vs, rfl, by rw [← r2.length, hlp]; exact h16, ?_⟩
    obtain ⟨g5, L5⟩ := lk_scratch (ho' := .dK (mergeK [] vs)) a2.lk nL2 hq2 (fun _ z => by cases z) (fun _ _ z => by cases z)
    have x5 := xt_scratch (ho' := .dK (mergeK [] vs)) (x0.trans x2) hq nL2 hq2 (fun _ z => by cases z) (fun _ _ z => by cases z)
    exact p2 α2 _ _ x5 L5 ⟨q, _, rfl, hq, upd_same, (RKs.merge r2 .nil).mono g5, nL2⟩
/-- the dict that a value is -/
def dctD : D → Sto → R (List (Key × D))
  | .loc n, st => match st[n]? with
    | some (.dct kvs) => .ok kvs st
    | some (.fdc kvs) => .ok kvs st
    | _ => .bad
  | _, _ => .bad
theorem dctD_ok {K : Frag} {α α0 : Nat → Addr} {st : Sto} {N0 : Nat} {H H0 : Hp} {d : D} {v : V} {β γ : Type} {rel : Rel β γ} {W : XK} {Q : γ → Hp → Prop} {f : List (Key × D) → Sto → R β} (L : Lk K ca α st H) (r : RV K α st.length H d v) (p : Post K ca rel α0 N0 H0 W Q ((dctD d st).bind f)) :
    ∃ q kvs ks, v = .ref q ∧ Rd H q (.dK ks) ∧ RKs K α st.length H kvs ks ∧ Post K ca rel α0 N0 H0 W Q (f kvs st) := by
  cases r <;> try exact False.elim p
  simp only [dctD] at p
  split at p <;> try exact p.elim
  · rename_i xs q1
    obtain ⟨ho, h1, q1⟩ := L.at_ _ _ q1
    cases q1 with
    | dct q1 => exact ⟨_, _, _, rfl, .inl h1, q1, p⟩
  · rename_i xs q1
    obtain ⟨ho, h1, q1⟩ := L.at_ _ _ q1
    cases q1 with
    | fdc q1 => exact ⟨_, _, _, rfl, .inr ⟨_, h1⟩, q1, p⟩
/-- dict(d) -/
def cDict (e : E) : ED := fun ρ st => (e ρ st).bind dctD
theorem bind_ret {β : Type} (r : R β) : r.bind (fun x st => .ok x st) = r := by cases r <;> rfl
theorem qd_dict (ha : QE X ca W a ea) (hg : Gl X "dict") (hm : X.mg "dict" = none) (hs : starEach [a] X.env = (false, eval a X.env) :: starEach [] X.env := by rfl) : QD X ca W (.Call (.Name "dict" p0) [a] [] pos) (cDict ea) :=
  peW (pe_callTy call_dictD hg hm (by decide +kernel) (pa1 ha hs) (by decide) (by decide) hs (by rfl)) fun σ H Q ⟨α, st, ρ, a, p⟩ => tG_next a .refl p fun α1 st1 d v H1 a1 _ x1 r1 p1 => by
    rw [← bind_ret (dctD d st1)] at p1
    obtain ⟨q, kvs, ks, rfl, h, r, p2⟩ := dctD_ok a1.lk r1 p1
    exact ⟨q, ks, rfl, h, fun l hl => fin_newD p2 x1 a1.lk r hl⟩
/-- dict([(k, v), ..]) -/
def prsD : List D → Option (List (Key × D))
  | [] => some []
  | .tup [k, v] :: r => (keyD k).bind fun k => (prsD r).map fun ps => (k, v) :: ps
  | _ :: _ => none
theorem prsD_ok {K : Frag} {α : Nat → Addr} {N : Nat} {H : Hp} : ∀ {xs : List D} {vs : List V} {kvs : List (Key × D)}, RVs K α N H xs vs → prsD xs = some kvs → ∃ ps ks, vs = ps.map V.ref ∧ Paired (fun p kv => SqT K H p [kV kv.1, kv.2]) ps ks ∧ RKs K α N H kvs ks
  | [], _, _, .nil, e => by simp only [prsD, Option.some.injEq] at e; subst e; exact ⟨[], [], rfl, .nil, .nil⟩
  | d :: xs, _, kvs, .cons h r, e => by
    cases h <;> try (simp only [prsD, reduceCtorEq] at e)
    rename_i h r2
    cases r2 with
    | nil => simp only [prsD, reduceCtorEq] at e
    | cons q1 r2 =>
      cases r2 with
      | nil => simp only [prsD, reduceCtorEq] at e
      | cons q2 r2 =>
        cases r2 with
        | cons _ _ => simp only [prsD, reduceCtorEq] at e
        | nil =>
          simp only [prsD] at e
          obtain ⟨k, e1, e2⟩ := Option.bind_eq_some_iff.mp e
          obtain ⟨rs, e3, e4⟩ := Option.map_eq_some_iff.mp e2
          subst e4
          obtain ⟨ps, ks, e5, e6, e7⟩ := prsD_ok r e3
          have ek := keyD_ok q1 e1
          subst ek
          exact ⟨_ :: ps, (k, _) :: ks, by rw [e5]; rfl, .cons h e6, .cons q2 e7⟩
def cDictL (e : EL) : ED := fun ρ st => (e ρ st).bind fun xs st => match prsD xs with
  | some ps => .ok (mergeD [] ps) st
  | none => .bad
theorem qd_dictL {e : EL} (hc : X.calm = true) (ha : QM X ca W a e) (hg : Gl X "dict") (hm : X.mg "dict" = none) (hs : starEach [a] X.env = (false, eval a X.env) :: starEach [] X.env := by rfl) : QD X ca W (.Call (.Name "dict" p0) [a] [] pos) (cDictL e) :=
  peW (pe_callTy (call_dictP hc) hg hm (by decide +kernel) (pa1 ha hs) (by decide) (by decide) hs (by rfl)) fun σ H Q ⟨α, st, ρ, a, p⟩ => tG_next a .refl p fun α1 st1 xs v H1 a1 _ x1 r1 p1 => by
    obtain ⟨q, vs, rfl, h, r⟩ := r1
    cases e : prsD xs with
    | none => rw [e] at p1; exact p1.elim
    | some kvs =>
      rw [e] at p1
      obtain ⟨ps, ks, e1, e2, e3⟩ := prsD_ok r e
      subst e1
      exact ⟨q, ps, ks, rfl, .inl (.inl h), e2, fun l hl => fin_newD p1 x1 a1.lk (RKs.merge e3 .nil) hl⟩
/-- list(d), sorted(d) -/
def kD : Key → D
  | .inl i => .int i
  | .inr z => .str z
theorem keys_rvs {K : Frag} {α : Nat → Addr} {N : Nat} {H : Hp} : ∀ {kvs : List (Key × D)} {ks : List (Key × V)}, RKs K α N H kvs ks → RVs K α N H (kvs.map fun kv => kD kv.1) (ks.map fun kv => kV kv.1)
  | _, _, .nil => .nil
  | _, _, .cons (k := k) h r => by
    rw [List.map_cons, List.map_cons]
    refine .cons ?_ (keys_rvs r)
    cases k with
    | inl i => exact .int i
    | inr z => exact .str z
def cKeys (e : E) : EL := fun ρ st => ((e ρ st).bind dctD).bind fun kvs st => .ok (kvs.map fun kv => kD kv.1) st
theorem ql_listD (hc : X.calm = true) (ha : QE X ca W a ea) (hg : Gl X "list") (hm : X.mg "list" = none) (hs : starEach [a] X.env = (false, eval a X.env) :: starEach [] X.env := by rfl) : QL X ca W (.Call (.Name "list" p0) [a] [] pos) (cKeys ea) :=
  peW (pe_callTy (call_listD hc) hg hm (by decide +kernel) (pa1 ha hs) (by decide) (by decide) hs (by rfl)) fun σ H Q ⟨α, st, ρ, a, p⟩ => by
    have p : Post X.K ca (relL X.K) α st.length H (fun c d H' => W c d σ H') Q (((ea ρ st).bind dctD).bind fun kvs st => .ok (kvs.map fun kv => kD kv.1) st) := p
    rw [bind_assoc] at p
    refine tG_next (rel := relV X.K) a .refl p fun α1 st1 d v H1 a1 _ x1 r1 p1 => ?_
    obtain ⟨q, kvs, ks, rfl, h, r, p2⟩ := dctD_ok a1.lk r1 p1
    exact ⟨q, ks, rfl, h, fun l hl => fin_new p2 x1 a1.lk (keys_rvs r) hl⟩
def intKeys : List (Key × D) → Option (List Int)
  | [] => some []
  | (.inl i, _) :: r => (intKeys r).map (i :: ·)
  | _ :: _ => none
theorem intKeys_ok {K : Frag} {α : Nat → Addr} {N : Nat} {H : Hp} : ∀ {kvs : List (Key × D)} {ks : List (Key × V)} {ns : List Int}, RKs K α N H kvs ks → intKeys kvs = some ns → ks.map (·.1) = ns.map Sum.inl ∧ ks.length = ns.length
  | _, _, _, .nil, e => by simp only [intKeys, Option.some.injEq] at e; subst e; exact ⟨rfl, rfl⟩
  | _, _, _, .cons (k := k) h r, e => by
    cases k <;> simp only [intKeys, reduceCtorEq] at e
    obtain ⟨ms, e1, e2⟩ := Option.map_eq_some_iff.mp e
    subst e2
    obtain ⟨h1, h2⟩ := intKeys_ok r e1
    exact ⟨by rw [List.map_cons, List.map_cons, h1], by rw [List.length_cons, List.length_cons, h2]⟩
def cSortedD (e : E) : EL := fun ρ st => ((e ρ st).bind dctD).bind fun kvs st => match intKeys kvs with
  | some ns => if ns.length < 64 then .ok ((sortI ns).map D.int) st else .bad
  | none => .bad
theorem ql_sortedD (hc : X.calm = true) (ha : QE X ca W a ea) (hg : Gl X "sorted") (hm : X.mg "sorted" = none) (hs : starEach [a] X.env = (false, eval a X.env) :: starEach [] X.env := by rfl) : QL X ca W (.Call (.Name "sorted" p0) [a] [] pos) (cSortedD ea) :=
  peW (pe_callB (call_sortedDI hc) hg hm (by decide +kernel) (pa1 ha hs) (by decide) (by decide) hs (by rfl)) fun σ H Q ⟨α, st, ρ, a, p⟩ => by
    have p : Post X.K ca (relL X.K) α st.length H (fun c d H' => W c d σ H') Q (((ea ρ st).bind dctD).bind fun kvs st => match intKeys kvs with
      | some ns => if ns.length < 64 then .ok ((sortI ns).map D.int) st else .bad
      | none => .bad) := p
    rw [bind_assoc] at p
    refine tG_next (rel := relV X.K) a .refl p fun α1 st1 d v H1 a1 _ x1 r1 p1 => ?_
    obtain ⟨q, kvs, ks, rfl, h, r, p2⟩ := dctD_ok a1.lk r1 p1
    cases e : intKeys kvs with
    | none => rw [e] at p2; exact p2.elim
    | some ns =>
      rw [e] at p2
      dsimp only at p2
      split at p2 <;> try exact p2.elim
      rename_i h64
      obtain ⟨e1, e2⟩ := intKeys_ok r e
      refine ⟨q, ks, ns, rfl, h, e1, h64, fun ys l hp hs hl => ?_⟩
      rw [sortI_uniq hp hs]
      exact fin_new p2 x1 a1.lk (ints_rvs _) hl
/-- d.get(k), d.get(k, y) -/
def cGet (d k : E) : E := fun ρ st => (d ρ st).bind fun x st => (dctD x st).bind fun _ st => (k ρ st).bind fun y st => (dctD x st).bind fun kvs st => match keyD y with
  | some k => .ok ((valD kvs k).getD .non) st
  | none => .bad
def cGet2 (d k z : E) : E := fun ρ st => (d ρ st).bind fun x st => (dctD x st).bind fun _ st => (k ρ st).bind fun y st => (z ρ st).bind fun u st => (dctD x st).bind fun kvs st => match keyD y with
  | some k => .ok ((valD kvs k).getD u) st
  | none => .bad
theorem getD_rel {K : Frag} {α : Nat → Addr} {N : Nat} {H : Hp} {kvs : List (Key × D)} {ks : List (Key × V)} {k : Key} {u : D} {v : V} (r : RKs K α N H kvs ks) (q : RV K α N H u v) : RV K α N H ((valD kvs k).getD u) ((valV ks k).getD v) := by
  rcases r.val k with ⟨e1, e2⟩ | ⟨x, y, e1, e2, r2⟩
  · rw [e1, e2]; exact q
  · rw [e1, e2]; exact r2
theorem qe_get (hu : X.A.units + 1 < cLine) (ho : QE X ca W o eo) (hk : QE X ca W a ea) (m : M1 X o "get" apos a cpos := by exact ⟨rfl, rfl, rfl, rfl⟩) : QE X ca W (.Call (.Attribute o "get" apos) [a] [] cpos) (cGet eo ea) :=
  peW (pe_dget1 hu ho hk m) fun σ H Q ⟨α, st, ρ, at0, p⟩ => tG_next (rel := relV X.K) at0 .refl p fun α1 st1 d v H1 a1 _ x1 r1 p1 => by
    obtain ⟨q, kvs, ks, rfl, h, r, p2⟩ := dctD_ok a1.lk r1 p1
    refine ⟨q, rfl, .inl ⟨ks, h⟩, tG_next (rel := relV X.K) a1 x1 p2 fun α2 st2 y u H2 a2 x2 xb r2 p3 => ?_⟩
    obtain ⟨q', kvs', ks', e', h', r', p4⟩ := dctD_ok a2.lk (r1.mono x2.toGr) p3
    cases e'
    cases e : keyD y with
    | none => rw [e] at p4; exact p4.elim
    | some k =>
      rw [e] at p4
      exact ⟨valV ks' k, .inl ⟨ks', k, h', keyD_ok r2 e, rfl⟩, p4 α2 H2 _ xb a2.lk (getD_rel r' .non)⟩
theorem qe_get2 (hu : X.A.units + 1 < cLine) (ho : QE X ca W o eo) (hk : QE X ca W a ea) (hz : QE X ca W b eb) (m : M2 X o "get" apos a b cpos := by exact ⟨rfl, rfl, rfl, rfl⟩) : QE X ca W (.Call (.Attribute o "get" apos) [a, b] [] cpos) (cGet2 eo ea eb) :=
  peW (pe_dget2 hu ho hk hz m) fun σ H Q ⟨α, st, ρ, at0, p⟩ => tG_next (rel := relV X.K) at0 .refl p fun α1 st1 d v H1 a1 _ x1 r1 p1 => by
    obtain ⟨q, kvs, ks, rfl, h, r, p2⟩ := dctD_ok a1.lk r1 p1
    refine ⟨q, rfl, .inl ⟨ks, h⟩, tG_next (rel := relV X.K) a1 x1 p2 fun α2 st2 y u H2 a2 x2 xb r2 p3 => tG_next (rel := relV X.K) a2 xb p3 fun α3 st3 z w H3 a3 x3 xb3 r3 p4 => ?_⟩
    obtain ⟨q', kvs', ks', e', h', r', p5⟩ := dctD_ok a3.lk (r1.mono (x2.trans x3).toGr) p4
    cases e'
    cases e : keyD y with
    | none => rw [e] at p5; exact p5.elim
    | some k =>
      rw [e] at p5
      exact ⟨valV ks' k, .inl ⟨ks', k, h', keyD_ok (r2.mono x3.toGr) e, rfl⟩, p5 α3 H3 _ xb3 a3.lk (getD_rel r' r3)⟩
end
end PM

set_option Elab.async false
set_option linter.all false
set_option maxRecDepth 100000
set_option maxHeartbeats 4000000
/-! PM9: dicts that are walked. -/
namespace PM
open PySem PySem.Spec PyProof.Rows L2
section
variable {X : Cx} {ca : Nat → Addr} {W : WX} {a b c o : Expr} {ea eb ec eo : E} {pos : Pos} {tg : Expr}

/-! ### a dict that stays the same for a while -/
def lockAt (p : E) : Env → Sto → Option (Nat × List (Key × D)) := fun ρ st => match p ρ st with
  | .ok (.loc n) _ => match st[n]? with
    | some (.dct kvs) => some (n, kvs)
    | _ => none
  | _ => none
def lockGo {β : Type} (n : Nat) : R β → R β
  | .ok b st => match st[n]? with
    | some (.fdc kvs) => .ok b (st.set n (.dct kvs))
    | _ => .bad
  | _ => .bad
def lockD {β : Type} (p : E) (e : Env → Sto → R β) : Env → Sto → R β := fun ρ st => match lockAt p ρ st with
  | some (n, kvs) => lockGo n (e ρ (st.set n (.fdc kvs)))
  | none => .bad
theorem lockAt_ok {p : E} {ρ : Env} {st : Sto} {n : Nat} {kvs : List (Key × D)} (h : lockAt p ρ st = some (n, kvs)) : st[n]? = some (.dct kvs) := by
  unfold lockAt at h
  split at h <;> try cases h
  split at h <;> cases h
  assumption
/-- what is told of a result, told again when a dict of the store is set free -/
def RelFree {β γ : Type} (rel : Rel β γ) (K : Frag) : Prop := ∀ (α α' : Nat → Addr) (N' : Nat) (H H' : Hp) (d : Addr) (u u' ou : HO) (b : β) (g : γ), H d = some ou → H' d = some u' → (∀ xs, u' ≠ .tup xs) → (∀ o xs, u' ≠ .frz o (.tup xs)) → (∀ o xs, u' ≠ .frz o (.lst xs)) →
  rel (upd H d u') α' N' H' b g → rel H α' N' (upd H' d u) b g
theorem gr_upd {K : Frag} {α : Nat → Addr} {N : Nat} {H : Hp} {d : Addr} {u u' : HO} (h : H d = some u') (h1 : ∀ xs, u' ≠ .tup xs) (h2 : ∀ o xs, u' ≠ .frz o (.tup xs)) (h3 : ∀ o xs, u' ≠ .frz o (.lst xs)) : Gr K α N H α N (upd H d u) :=
  ⟨Nat.le_refl _, fun _ _ => rfl, fun a vs z => sqT_upd (fun xs q => by rw [h] at q; exact h1 xs (Option.some.inj q)) (fun o xs q => by rw [h] at q; exact h2 o xs (Option.some.inj q)) z,
    fun a vs z => conL_upd (fun o xs q => by rw [h] at q; exact h3 o xs (Option.some.inj q)) z⟩
theorem relV_free {K : Frag} : RelFree (relV K) K := fun α α' N' H H' d u u' ou b g h0 h h1 h2 h3 r => RV.mono (gr_upd h h1 h2 h3) r
theorem relB_free {K : Frag} : RelFree relB K := fun α α' N' H H' d u u' ou b g h0 h h1 h2 h3 r => r
theorem relL_free {K : Frag} : RelFree (relL K) K := fun α α' N' H H' d u u' ou b g h0 h h1 h2 h3 ⟨p, vs, e, q1, q2, q3, q4⟩ => by
  have ne : p ≠ d := fun z => by rw [z, upd_same] at q1; cases q1
  rw [upd_ne ne] at q1
  exact ⟨p, vs, e, q1, by rw [upd_ne ne]; exact q2, RVs.mono (gr_upd h h1 h2 h3) q3, q4⟩
theorem relD_free {K : Frag} : RelFree (relD K) K := fun α α' N' H H' d u u' ou b g h0 h h1 h2 h3 ⟨p, vs, e, q1, q2, q3, q4⟩ => by
  have ne : p ≠ d := fun z => by rw [z, upd_same] at q1; cases q1
  rw [upd_ne ne] at q1
  exact ⟨p, vs, e, q1, by rw [upd_ne ne]; exact q2, RKs.mono (gr_upd h h1 h2 h3) q3, q4⟩
theorem lk_dct {K : Frag} {α : Nat → Addr} {st : Sto} {H : Hp} {n : Nat} {kvs : List (Key × D)} (L : Lk K ca α st H) (h : st[n]? = some (.dct kvs)) : ∃ ks, H (α n) = some (.dK ks) ∧ RKs K α st.length H kvs ks := by
  obtain ⟨ho, h1, r⟩ := L.at_ n _ h
  cases r with
  | dct r => exact ⟨_, h1, r⟩
theorem lk_fdc {K : Frag} {α : Nat → Addr} {st : Sto} {H : Hp} {n : Nat} {kvs : List (Key × D)} (L : Lk K ca α st H) (h : st[n]? = some (.fdc kvs)) : ∃ o ks, H (α n) = some (.frz o (.dK ks)) ∧ RKs K α st.length H kvs ks := by
  obtain ⟨ho, h1, r⟩ := L.at_ n _ h
  cases r with
  | fdc r => exact ⟨_, _, h1, r⟩
/-- a dict of the store is held -/
theorem lk_hold {K : Frag} {α : Nat → Addr} {st : Sto} {H : Hp} {n : Nat} {kvs : List (Key × D)} {ks : List (Key × V)} {od : Obj} (L : Lk K ca α st H) (h : st[n]? = some (.dct kvs)) (h1 : H (α n) = some (.dK ks)) (r : RKs K α st.length H kvs ks) :
    Lk K ca α (st.set n (.fdc kvs)) (upd H (α n) (.frz od (.dK ks))) ∧ Xt K α st.length H α (st.set n (.fdc kvs)).length (upd H (α n) (.frz od (.dK ks))) :=
  L.write h h1 (fun _ z => by cases z) (fun _ _ z => by cases z) (.fdc r)
/-- .. and set free -/
theorem lk_free {K : Frag} {α : Nat → Addr} {st : Sto} {H : Hp} {n : Nat} {kvs : List (Key × D)} {ks : List (Key × V)} {od : Obj} (L : Lk K ca α st H) (h : st[n]? = some (.fdc kvs)) (h1 : H (α n) = some (.frz od (.dK ks))) (r : RKs K α st.length H kvs ks) :
    Lk K ca α (st.set n (.dct kvs)) (upd H (α n) (.dK ks)) := by
  have hn := Lk.lt_of h
  have g : Gr K α st.length H α st.length (upd H (α n) (.dK ks)) := gr_upd h1 (fun _ z => by cases z) (fun _ _ z => by cases z) (fun _ _ z => by cases z)
  refine ⟨fun m o2 h2 => ?_, fun i j hi hj e => L.inj i j (by simpa using hi) (by simpa using hj) e⟩
  rw [List.length_set]
  by_cases e : m = n
  · subst e
    rw [List.getElem?_set_self hn] at h2
    cases h2
    exact ⟨_, upd_same, .dct (r.mono g)⟩
  · rw [List.getElem?_set_ne (Ne.symm e)] at h2
    obtain ⟨x, hx2, r2⟩ := L.at_ m o2 h2
    have hm := Lk.lt_of h2
    refine ⟨x, ?_, r2.mono g⟩
    rw [upd_ne (fun z => e (L.inj m n hm hn z))]
    exact hx2
theorem xt_free {K : Frag} {α α' : Nat → Addr} {N N' n : Nat} {H H' : Hp} {ks : List (Key × V)} {od : Obj} (hn : n < N) (h0 : H (α n) = some (.dK ks)) (x : Xt K α N (upd H (α n) (.frz od (.dK ks))) α' N' H') (h1 : H' (α n) = some (.frz od (.dK ks))) :
    Xt K α N H α' N' (upd H' (α n) (.dK ks)) where
  le := x.le
  ag := x.ag
  tup := fun a vs h => sqT_upd (fun xs z => by rw [h1] at z; cases z) (fun o xs z => by rw [h1] at z; cases z) (x.tup a vs (sqT_upd (fun xs z => by rw [h0] at z; cases z) (fun o xs z => by rw [h0] at z; cases z) h))
  con := fun a vs h => conL_upd (fun o xs z => by rw [h1] at z; cases z) (x.con a vs (conL_upd (fun o xs z => by rw [h0] at z; cases z) h))
  new := fun m hm hm' => by
    have := x.new m hm hm'
    by_cases e : α' m = α n
    · rw [e, upd_same] at this; cases this
    · rwa [upd_ne e] at this
  keep := fun a o h hne => by
    have ne : a ≠ α n := fun e => hne n hn e.symm
    rw [upd_ne ne]
    exact x.keep a o (by rw [upd_ne ne]; exact h) hne
  old := fun m hm ho => by
    by_cases e : α m = α n
    · rw [e, upd_same]; exact fun z => by cases z
    · rw [upd_ne e]; exact x.old m hm (by rw [upd_ne e]; exact ho)
  frz := fun a o u h => by
    have ne : a ≠ α n := fun e => by rw [e, h0] at h; cases h
    rw [upd_ne ne]
    exact x.frz a o u (by rw [upd_ne ne]; exact h)
theorem tG_lock {K : Frag} {β : Type} {rel : Rel β V} {p : E} {e : Env → Sto → R β} {σ : L2.St} {H : Hp} {Q : VK} (fr : RelFree rel K) (h : tG K ca rel W (lockD p e) σ H Q) : tLockE (tG K ca rel W0 e) σ H Q := by
  obtain ⟨α, st, ρ, at0, p⟩ := h
  simp only [lockD] at p
  split at p <;> try exact p.elim
  rename_i n kvs el
  have hs := lockAt_ok el
  obtain ⟨ks, h1, r⟩ := lk_dct at0.lk hs
  have hn := Lk.lt_of hs
  refine ⟨α n, _, h1, trivial, fun od => ?_⟩
  obtain ⟨L1, x1⟩ := lk_hold (od := od) at0.lk hs h1 r
  refine ⟨α, st.set n (.fdc kvs), ρ, ⟨L1, by rw [List.length_set]; exact at0.re.mono (by have := x1.toGr; rwa [List.length_set] at this)⟩, ?_⟩
  revert p
  cases e ρ (st.set n (.fdc kvs)) with
  | exc c fs st' => exact fun p => False.elim p
  | bad => exact fun p => False.elim p
  | ok b st' =>
    intro p α' H' g x L' rl
    simp only [lockGo] at p
    split at p <;> try exact p.elim
    rename_i kvs' e'
    have x : Xt K α st.length (upd H (α n) (.frz od (.dK ks))) α' st'.length H' := by rwa [List.length_set] at x
    have hd : H' (α n) = some (.frz od (.dK ks)) := x.frz _ _ _ upd_same
    obtain ⟨o2, ks2, h2, r2⟩ := lk_fdc L' e'
    have ea : α' n = α n := x.ag n hn
    rw [ea, hd] at h2
    cases h2
    refine ⟨hd, p α' _ g ?_ ?_ ?_⟩
    · rw [List.length_set]; exact xt_free hn h1 x hd
    · have := lk_free L' e' (by rw [ea]; exact hd) r2
      rwa [ea] at this
    · rw [List.length_set]; exact fr α α' _ _ _ _ _ _ _ _ _ h1 hd (fun _ z => by cases z) (fun _ _ z => by cases z) (fun _ _ z => by cases z) rl
theorem ql_lock (p : E) {e : EL} (h : QL X ca W0 a e) : QL X ca W a (lockD p e) := peW (pe_lock h) fun σ H Q q => tG_lock relL_free q
theorem qd_lock (p : E) {e : ED} (h : QD X ca W0 a e) : QD X ca W a (lockD p e) := peW (pe_lock h) fun σ H Q q => tG_lock relD_free q
theorem qe_lock (p : E) {e : E} (h : QE X ca W0 a e) : QE X ca W a (lockD p e) := peW (pe_lock h) fun σ H Q q => tG_lock relV_free q

/-! ### the keys of a dict that is held -/
def keysD : D → Sto → R Itb
  | .loc n, st => match st[n]? with
    | some (.fdc kvs) => .ok ⟨fun st => ∃ l, st[n]? = some (.fdc l) ∧ l.map (·.1) = kvs.map (·.1), kvs.map fun kv => kD kv.1⟩ st
    | _ => .bad
  | _, _ => .bad
def cKeysI (e : E) : EI := fun ρ st => (e ρ st).bind keysD
theorem kD_ok {K : Frag} {α : Nat → Addr} {N : Nat} {H : Hp} (k : Key) : RV K α N H (kD k) (kV k) := by cases k <;> constructor
theorem qi_keys (h : QE X ca W a ea) : QI X ca W tg a (cKeysI ea) :=
  piW (pi_keys h) fun σ H Q ⟨α, st, ρ, at0, p⟩ => tG_next (rel := relV X.K) at0 .refl p fun α1 st1 d v H1 a1 _ x1 r1 p1 => by
    cases r1 <;> try exact False.elim p1
    rename_i n hn
    simp only [keysD] at p1
    split at p1 <;> try exact p1.elim
    rename_i kvs e
    obtain ⟨o, ks, h1, r⟩ := lk_fdc a1.lk e
    refine ⟨_, o, rfl, .inl ⟨ks, h1, p1 α1 H1 _ x1 a1.lk fun α2 st2 H2 x2 L2 ck => ?_⟩⟩
    have h2 := x2.frz _ _ _ h1
    have hl : kvs.length = ks.length := r.length
    refine ⟨⟨h2, by show _ ≤ (kvs.map fun kv => kD kv.1).length; rw [List.length_map]; omega⟩, fun i d ei => ?_⟩
    have ei : (kvs.map fun kv => kD kv.1)[i]? = some d := ei
    rw [List.getElem?_map] at ei
    obtain ⟨⟨k, y⟩, e1, e2⟩ := Option.map_eq_some_iff.mp ei
    have hi : i < kvs.length := (List.getElem?_eq_some_iff.mp e1).1
    refine ⟨⟨h2, by omega⟩, fun x H3 ⟨e3, k', v', e4, e5⟩ => ?_⟩
    subst e3 e5 e2
    obtain ⟨y', e6, _⟩ := r.get e1
    rw [e6] at e4
    cases e4
    exact ⟨.refl, L2, kD_ok _⟩

/-! ### dict comprehensions -/
def pairD (ek ev : E) : Env → Sto → R (Key × D) := fun ρ st => (ek ρ st).bind fun k st => (ev ρ st).bind fun v st => match keyD k with
  | some k => .ok (k, v) st
  | none => .bad
noncomputable def cDComp (e : EI) (t : CT) (tt : ET) (ek ev : E) (vs : List Nat) : ED := fun ρ st => (e ρ st).bind fun b st =>
  if b.xs.length ≤ sizeLine then (compGo b.chk t tt (pairD ek ev) (wipeD ρ vs) b.xs st).bind fun ps st => .ok (mergeD [] ps) st else .bad
theorem qd_comp {kx vx iter : Expr} {ifs : List Expr} {scope : Scope} {own : List (Str × Nat)} {e : EI} {t : CT} {tt : ET} {ek ev : E} (hc : X.calm = true) (hN : X.N.Nodup) (hi : QI X ca W tg iter e) (ok : BlkOk X.N X.env.scope scope own)
    (hg : ∀ (s : Shared) (H : Hp) (C : Addr) (cl : List (Str × Addr)) (fp : List Addr), PG (X.blk s H scope (compEnvC scope cl C X.env) fp) tg (t.g X.K))
    (ht : ∀ (s : Shared) (H : Hp) (C : Addr) (cl : List (Str × Addr)) (fp : List Addr), PTs (X.blk s H scope (compEnvC scope cl C X.env) fp) ifs (tG X.K ca relB W0 tt))
    (hk : ∀ (s : Shared) (H : Hp) (C : Addr) (cl : List (Str × Addr)) (fp : List Addr), QE (X.blk s H scope (compEnvC scope cl C X.env) fp) ca W0 kx ek)
    (he : ∀ (s : Shared) (H : Hp) (C : Addr) (cl : List (Str × Addr)) (fp : List Addr), QE (X.blk s H scope (compEnvC scope cl C X.env) fp) ca W0 vx ev)
    (hv : ∀ i ∈ t.slots, i ∈ own.map (·.2)) (hs : ∀ x, foldedSetIterable iter X.env x = pure x := by intro _; rfl) :
    QD X ca W (.DictComp kx vx [⟨tg, iter, ifs, 0⟩] scope pos) (cDComp e t tt ek ev (own.map (·.2))) :=
  peW (pe_dc (tk := tG X.K ca (relV X.K) W0 ek) (tv := tG X.K ca (relV X.K) W0 ev) hc hN hi ok hg ht hk he hs) fun σ H Q ⟨α, st, ρ, at0, p⟩ => by
    refine tG_next (rel := relI X.K ca) at0 .refl p fun α1 st1 b J H1 a1 _ x1 io p1 => ?_
    intro L hL
    split at p1 <;> try exact p1.elim
    rename_i hz
    have nL : ∀ n, n < st1.length → α1 n ≠ L := fun n hn z => by
      obtain ⟨o, ho⟩ := a1.lk.there hn
      rw [z, hL] at ho; cases ho
    have keyW : ∀ {α' α'' : Nat → Addr} {st' st'' : Sto} {H' H'' : Hp} {accV : List (Key × V)}, (∀ n, n < st'.length → α' n ≠ L) → H' L = some (.dK accV) → Xt X.K α' st'.length H' α'' st''.length H'' → ∀ n, n < st''.length → α'' n ≠ L := fun {α' α'' st' st'' H' H'' accV} hn hD x n hl z => by
      by_cases h1 : n < st'.length
      · rw [x.ag n h1] at z; exact hn n h1 z
      · have := x.new n (Nat.le_of_not_lt h1) hl
        rw [z, hD] at this; cases this
    have W : ∃ Wv : Nat → Nat → Hp → Prop, Wv = fun i m H' => ∃ α' st' acc accV, At X.K ca α' st' H' ρ σ ∧ Xt X.K α1 st1.length H1 α' st'.length H' ∧ H' L = some (.dK accV) ∧ (∀ n, n < st'.length → α' n ≠ L) ∧ RKs X.K α' st'.length H' acc accV ∧ acc.length ≤ i ∧ m + i = b.xs.length ∧
      Post X.K ca (relD X.K) α st.length H (fun c d H' => W c d σ H') Q ((compGo b.chk t tt (pairD ek ev) (wipeD ρ (own.map (·.2))) (b.xs.drop i) st').bind fun ys st => .ok (mergeD acc ys) st) := ⟨_, rfl⟩
    obtain ⟨Wv, eW⟩ := W
    refine ⟨Wv, ⟨b.xs.length, ?_⟩, ?_⟩
    · rw [eW]
      refine ⟨α1, st1, [], [], a1.later (xt_new hL) (a1.lk.temp hL), xt_new hL, upd_same, nL, .nil, Nat.le_refl _, rfl, ?_⟩
      rw [List.drop_zero]
      exact p1
    · intro i m H' hW
      rw [eW] at hW
      obtain ⟨α', st', acc, accV, a', x', hD, nL', ra, hai, hm, q⟩ := hW
      cases hd : b.xs.drop i with
      | nil =>
        rw [hd] at q
        unfold compGo at q
        split at q <;> try exact q.elim
        rename_i ck
        have hl : b.xs.length ≤ i := by simpa using hd
        have hil : i = b.xs.length := by omega
        subst hil
        refine .inl ⟨(io α' st' H' x' a'.lk ck).1, ?_⟩
        exact q α' H' _ (x1.trans x') a'.lk ⟨L, accV, rfl, x1.fresh hL, hD, ra, nL'⟩
      | cons d r =>
        rw [hd] at q
        unfold compGo at q
        split at q <;> try exact q.elim
        rename_i ck
        have hlt : i < b.xs.length := by
          apply Classical.byContradiction
          intro hn
          rw [List.drop_eq_nil_of_le (Nat.le_of_not_lt hn)] at hd
          cases hd
        have hget : b.xs[i]? = some d := by
          have : (b.xs.drop i)[0]? = some d := by rw [hd]; rfl
          simpa using this
        have hr : b.xs.drop (i + 1) = r := by
          have : (b.xs.drop i).drop 1 = r := by rw [hd]; rfl
          rw [List.drop_drop] at this
          exact this
        obtain ⟨go, yl⟩ := (io α' st' H' x' a'.lk ck).2 i d hget
        cases eg : t.set d (wipeD ρ (own.map (·.2))) with
        | none => rw [eg] at q; exact q.elim
        | some ρ1 =>
          rw [eg] at q
          dsimp only at q
          refine .inr ⟨go, Wv (i + 1) (m - 1), fun H2 h => ⟨m - 1, by omega, h⟩, fun x H2 y => ?_⟩
          obtain ⟨xy, Ly, ry⟩ := yl x H2 y
          have hD2 := xy.keep L _ hD nL'
          have re2 := (a'.re.mono xy.toGr).wipe (own.map (·.2))
          refine CT.ok ry re2 eg hv fun σ2 re3 hw => ⟨hw.trans wipe_wipe, ?_⟩
          refine ⟨α', st', ρ1, ⟨Ly, re3⟩, ?_⟩
          rw [bind_assoc] at q
          revert q
          cases tt ρ1 st' with
          | exc c fs st2 => exact fun q => False.elim q
          | bad => exact fun q => False.elim q
          | ok k st2 =>
            intro q α2 H3 k' x2 L2 ek'
            cases ek'
            have nL2 := keyW nL' hD2 x2
            have hD3 := x2.keep L _ hD2 nL'
            have xi := (x'.trans xy).trans x2
            cases k with
            | false =>
              rw [if_neg Bool.false_ne_true, eW]
              exact ⟨α2, st2, acc, accV, (a'.later xy Ly).later x2 L2, xi, hD3, nL2, ra.mono (xy.trans x2).toGr, by omega, by omega, by rw [hr]; exact q⟩
            | true =>
              rw [if_pos rfl]
              refine ⟨α2, st2, ρ1, ⟨L2, re3.mono x2.toGr⟩, ?_⟩
              have q : Post X.K ca (relD X.K) α st.length H (fun c d H' => W c d σ H') Q (((cNx (pairD ek ev ρ1 st2)).bind fun y st => (compGo b.chk t tt (pairD ek ev) (wipeD ρ (own.map (·.2))) r st).bind fun ys st => .ok (y :: ys) st).bind fun ys st => .ok (mergeD acc ys) st) := q
              rw [bind_assoc] at q
              revert q
              unfold pairD
              cases ek ρ1 st2 with
              | exc c fs st2 => exact fun q => False.elim q
              | bad => exact fun q => False.elim q
              | ok kd st3 =>
                rw [R.bind_ok]
                intro q α3 H4 kv x3 L3 r3
                have nL3 := keyW nL2 hD3 x3
                have hD4 := x3.keep L _ hD3 nL2
                refine ⟨α3, st3, ρ1, ⟨L3, (re3.mono x2.toGr).mono x3.toGr⟩, ?_⟩
                revert q
                cases ev ρ1 st3 with
                | exc c fs st2 => exact fun q => False.elim q
                | bad => exact fun q => False.elim q
                | ok yd st4 =>
                  rw [R.bind_ok]
                  intro q α4 H5 yv x4 L4 r4
                  cases hk' : keyD kd with
                  | none => rw [hk'] at q; exact q.elim
                  | some k =>
                    rw [hk'] at q
                    have nL4 := keyW nL3 hD4 x4
                    have hD5 := x4.keep L _ hD4 nL3
                    have xi4 := (xi.trans x3).trans x4
                    have ra4 := ra.mono (((xy.trans x2).trans x3).trans x4).toGr
                    refine ⟨accV, k, keyD_ok r3 hk', hD5, by rw [← ra4.length]; omega, ?_⟩
                    obtain ⟨g5, L5⟩ := lk_scratch (ho' := .dK (putK accV k yv)) L4 nL4 hD5 (fun _ z => by cases z) (fun _ _ z => by cases z)
                    have x5 := xt_scratch (ho' := .dK (putK accV k yv)) xi4 hL nL4 hD5 (fun _ z => by cases z) (fun _ _ z => by cases z)
                    rw [eW]
                    refine ⟨α4, st4, putD acc k yd, putK accV k yv, ⟨L5, ((((a'.re.mono xy.toGr).mono x2.toGr).mono x3.toGr).mono x4.toGr).mono g5⟩, x5, upd_same, nL4, (ra4.put k r4).mono g5, ?_, by omega, ?_⟩
                    · have : (putD acc k yd).length ≤ acc.length + 1 := by
                        unfold putD
                        split
                        · rw [List.length_map]; omega
                        · rw [List.length_append]; exact Nat.le_refl _
                      omega
                    · have q : Post X.K ca (relD X.K) α st.length H (fun c d H' => W c d σ H') Q (((compGo b.chk t tt (pairD ek ev) (wipeD ρ (own.map (·.2))) r st4).bind fun ys st => .ok ((k, yd) :: ys) st).bind fun ys st => .ok (mergeD acc ys) st) := q
                      rw [bind_assoc] at q
                      rw [hr]
                      exact q
end
end PM

set_option Elab.async false
set_option linter.all false
set_option maxRecDepth 100000
set_option maxHeartbeats 4000000
/-! PM10: sorted(set(xs)), xs a list of ints. -/
namespace PM
open PySem PySem.Spec PyProof.Rows L2

abbrev setObj (w : World) : Obj := { cls := .type "set", dict := none, data := .set #[] 0 (.fresh 0 0 (!w.params.followText "set-order")) }
section
variable {P : Program} {w : World} {A : Around} {E : Value → Shared → Prop} {s : Shared}
set_option maxHeartbeats 6400000 in
/-- set(l) of a list of ints: the set, as cr_sortedSet asks it -/
theorem set_of_list {l : Addr} {us : Array Value} (ns : List Int) {Q : Value → Shared → Prop} (hh : A.handled = none) (hl : s.heap.IsList l us) (hi : IntsAre us.toList ns) (hb : ns.length + 1 < scanBound)
    (h : ∀ (h2 : Heap) (tk c : Nat), SetR w h2 s.heap.objs.size (fun j => decide (j ∈ ns)) c → c ≤ ns.length → (∀ b o, s.heap.get? b = some o → h2.get? b = some o) → Q (.ref s.heap.objs.size) { s with heap := h2, toks := tk }) :
    wpAny (model P w) A (call (.type "set") [.ref l]) Q E s := by
  have hsz : us.size = ns.length := by have := hi.length; rwa [Array.length_toList] at this
  obtain ⟨_, _, hmro⟩ := F.called_set.mro
  have f1 := F.called_set.made
  have f2 := F.called_set.sub
  have f3 := F.called_set.notType
  have f4 := F.called_set.canCreate
  have f5 := F.typeCall_set_1 (.ref l)
  refine wpAny_call (codeAny_of_tree (wpAny_pure ⟨Code.quiet_builtin _ (by decide +kernel), codeAny_builtin F.entry_type_call ?_⟩))
  rw [Around.under_plain (weight_type_call_type "set" [.ref l] []) rfl]
  repeat (any_goals (first | assumption | wp_step))
  generalize hS0 : s.heap.push (setObj w) = g0
  have hnew : g0.get? s.heap.objs.size = some (setObj w) := by rw [← hS0]; exact Heap.get?_push_size _ rfl
  have hold : ∀ b o, s.heap.get? b = some o → g0.get? b = some o := fun b o e => by rw [← hS0]; exact Heap.get?_push_of_some _ e
  have hgs : g0.objs.size = s.heap.objs.size + 1 := by rw [← hS0]; exact Heap.size_push ..
  refine codeAny_mono (code_set_led1 (.ref l) (E := E) (Q₁ := fun v s1 => v = .ref s.heap.objs.size ∧ s1 = { s with heap := g0 }) ⟨rfl, by rw [← hS0]⟩) fun r s1 hr => ?_
  match r, hr with
  | .error e, hr => exact hr
  | .ok .next, hr => exact hr.elim
  | .ok .brk, hr => exact hr.elim
  | .ok .cont, hr => exact hr.elim
  | .ok (.ret v), hr =>
    obtain ⟨rfl, rfl⟩ := hr
    have ty : Shared.TypeIs { s with heap := g0 } (.ref s.heap.objs.size) "set" := ⟨_, hnew, rfl⟩
    have f6 := F.called_set.init.lookup
    have f7 := F.called_set.init.bind (.ref s.heap.objs.size)
    repeat (any_goals (first | assumption | wp_step))
    refine codeAny_mono (codeAny_call_builtin (R := wants (fun r s2 => r = .none ∧ ∃ h2 tk c, s2 = { s with heap := h2, toks := tk } ∧ SetR w h2 s.heap.objs.size (fun j => decide (j ∈ ns)) c ∧ c ≤ ns.length ∧ (∀ b o, s.heap.get? b = some o → h2.get? b = some o)) E)
      F.called_set.init.plain F.entry_set_init (check_set_init_1 ty ?_)) fun r2 s2 hr2 => ?_
    · obtain ⟨⟨ocls, odict, odata, oslots⟩, hol, hcl, nl, hdl⟩ := hl
      simp only at hcl hdl
      subst hcl hdl
      have hol2 := hold _ _ hol
      have hlt : l < s.heap.objs.size := Heap.lt_size hol
      have e1 := F.sub_list_set
      have e2 := F.sub_list_frozenset
      have e3 : (Value.type "list" == Value.type "dict") = false := by decide
      have hl2 : g0.IsList l us := ⟨_, hol2, rfl, nl, rfl⟩
      unfold Builtin.«set.__init__» noKeywords Builtin.Frozenset.updateFrom
      generalize hPI : pyIter = PI
      wp_walk
      subst hPI
      refine wpAny_pyIter_list hl2 (wpAny_bind (wpAny_runValue ?_))
      have h3 : A.in1.in1.in1.handled = none := by simp [hh]
      have ne1 : l ≠ g0.objs.size := by rw [hgs]; exact Nat.ne_of_lt (Nat.lt_succ_of_lt hlt)
      have nin : s.heap.objs.size ∉ [g0.objs.size, l] := by
        rw [hgs]
        intro z
        rcases List.mem_cons.mp z with z | z
        · exact absurd z (Nat.ne_of_lt (Nat.lt_succ_self _))
        · exact absurd (List.mem_singleton.mp z) (Nat.ne_of_gt hlt)
      refine set_update_ints ((Walks.list h3 _ l ne1 us).toS) s.heap.objs.size nin ns hsz hb (fun i v hv => ?_) (us.size - 0) 0 _ (by omega) (Nat.zero_le _) ⟨⟨_, Heap.get?_push_size _ rfl, rfl, rfl⟩, hl2.push _⟩ ?_ ?_
      · have hin : i < ns.length := by rw [← hsz]; exact (Array.getElem?_eq_some_iff.mp hv).1
        obtain ⟨t, e⟩ := PyProof.Rows.IntsAre.int_at hi i v (by rw [Array.getElem?_toList]; exact hv)
        refine ⟨ns[i], t, List.getElem?_eq_getElem hin, ?_⟩
        rw [e, List.getD_eq_getElem?_getD, List.getElem?_eq_getElem hin] <;> rfl
      · exact ⟨0, Nat.le_refl 0, setR_new_at (Heap.get?_push_of_some _ hnew)⟩
      · intro s2 c hm hc R
        obtain ⟨h2, gg, dd, tt, oo⟩ := s2
        have eg : gg = s.gens := hm.gens
        have ed : dd = s.drawn := hm.drawn
        have eo : oo = s.os := hm.os
        subst eg ed eo
        show wpAny _ _ _ _ _ _
        refine wpAny_pure ?_
        show wpAny _ _ (ret Value.none) _ _ _
        rw [hsz] at hc
        refine wpAny_pure ⟨rfl, h2, tt, c, rfl, R, hc, fun b o e => ?_⟩
        have hb0 : b < s.heap.objs.size := Heap.lt_size e
        refine hm.heap b o (fun z => ?_) (Heap.get?_push_of_some _ (hold b o e))
        rcases List.mem_cons.mp z with z | z
        · exact absurd z (Nat.ne_of_lt hb0)
        · have z := List.mem_singleton.mp z
          rw [hgs] at z
          exact absurd z (Nat.ne_of_lt (Nat.lt_succ_of_lt hb0))
    · match r2, hr2 with
      | .error e, hr2 => exact hr2
      | .ok .next, hr2 => exact hr2.elim
      | .ok .brk, hr2 => exact hr2.elim
      | .ok .cont, hr2 => exact hr2.elim
      | .ok (.ret r), hr2 =>
        obtain ⟨rfl, h2, tk, c, rfl, R, hc, hk⟩ := hr2
        repeat (any_goals (first | assumption | wp_step))
        exact h _ _ _ R hc hk
end
end PM

set_option Elab.async false
set_option linter.all false
set_option maxRecDepth 100000
set_option maxHeartbeats 4000000
/-! PM11: sorted(set(xs)). -/
namespace PM
open PySem PySem.Spec PyProof.Rows L2
section
variable {X : Cx} {ca : Nat → Addr} {W : WX} {a : Expr} {p p2 pos q : Pos}
def nubI : List Int → List Int
  | [] => []
  | n :: ns => if n ∈ nubI ns then nubI ns else n :: nubI ns
theorem mem_nubI {k : Int} : ∀ {ns : List Int}, k ∈ nubI ns ↔ k ∈ ns
  | [] => Iff.rfl
  | n :: ns => by
    have ih := mem_nubI (k := k) (ns := ns)
    unfold nubI
    split
    · rename_i h
      rw [List.mem_cons, ih]
      exact ⟨fun z => .inr z, fun z => z.elim (fun e => by rw [e]; exact mem_nubI.mp h) id⟩
    · rw [List.mem_cons, List.mem_cons, ih]
theorem nodup_nubI : ∀ ns : List Int, (nubI ns).Nodup
  | [] => List.nodup_nil
  | n :: ns => by
    unfold nubI
    split
    · exact nodup_nubI ns
    · rename_i h
      exact List.nodup_cons.mpr ⟨h, nodup_nubI ns⟩
/-- the members of a list, each once, in order -/
def setI (ns : List Int) : List Int := sortI (nubI ns)
theorem setI_uniq {ns ms : List Int} (hs : ms.Pairwise (· < ·)) (hm : ∀ k, k ∈ ms ↔ k ∈ ns) : ms = setI ns := by
  refine sortI_uniq ?_ (hs.imp fun h => Int.le_of_lt h)
  refine (List.perm_ext_iff_of_nodup (hs.imp fun h => Int.ne_of_lt h) (nodup_nubI ns)).mpr fun k => ?_
  rw [hm, mem_nubI]
def sortSetS : List D → Sto → R (List D) := fun xs st => match intsD xs with
  | some ns => if ns.length < 64 then .ok ((setI ns).map .int) st else .bad
  | none => .bad
theorem cr_setI (hc : X.calm = true) : CallR X (.type "set") (fun xs H Q => ∃ (l : Addr) (ns : List Int), xs = [V.ref l] ∧ SqL X.K H l (ns.map V.int) ∧ ns.length + 1 < scanBound ∧ ∀ p n, H p = none → n ≤ ns.length → Q (.ref p) (upd H p (SetO X.w p (fun j => decide (j ∈ ns)) n))) := by
  intro pins s σ H xs us Q I r h
  obtain ⟨l, ns, rfl, hq, hb, q⟩ := h
  rw [Vals.ref1 r]
  obtain ⟨its, rv, pl, hz⟩ := I.list hq
  refine set_of_list ns (I.ok.hd hc) pl.isList (by simpa using ints_of_vals rv) hb fun h2 tk c R hcn hk => ?_
  have hn : H s.heap.objs.size = none := I.hok.fresh (Nat.le_refl _)
  exact ⟨.ref _, _, I.laid (t' := tk) hk (Nat.le_refl _) (setO_new R), rfl, q _ _ hn hcn⟩
theorem ql_sortedSet {e : EL} (hc : X.calm = true) (ha : QM X ca W a e) (hg : Gl X "sorted") (hm : X.mg "sorted" = none) (hg2 : Gl X "set") (hm2 : X.mg "set" = none) (hs : starEach [a] X.env = (false, eval a X.env) :: starEach [] X.env := by rfl)
    (hs2 : starEach [.Call (.Name "set" p2) [a] [] q] X.env = (false, eval (.Call (.Name "set" p2) [a] [] q) X.env) :: starEach [] X.env := by rfl) : QL X ca W (.Call (.Name "sorted" p) [.Call (.Name "set" p2) [a] [] q] [] pos) (cS1 sortSetS e) :=
  peW (pe_callB (cr_sortedSet hc) hg hm (by decide +kernel) (pa1 (pe_callTy (cr_setI hc) hg2 hm2 (by decide +kernel) (pa1 ha hs) (by decide) (by decide) hs (by rfl)) hs2) (by decide) (by decide) hs2 (by rfl)) fun σ H Q ⟨α, st, ρ, at0, p⟩ =>
    tG_next (rel := relM X.K) at0 .refl p fun α1 st1 xs v H1 a1 _ x1 ⟨l, vs, e, h, r1⟩ p1 => by
      subst e
      unfold sortSetS at p1
      cases e : intsD xs with
      | none => rw [e] at p1; exact p1.elim
      | some ns =>
        rw [e] at p1
        dsimp only at p1
        split at p1 <;> try exact p1.elim
        rename_i h64
        have ev := intsD_ok r1 e
        subst ev
        refine ⟨l, ns, rfl, .inl (.inl h), by unfold scanBound; omega, fun p n hp hn => ⟨p, _, n, rfl, upd_same, by omega, fun ms l2 hs hm hl hl2 => ?_⟩⟩
        rw [setI_uniq (ns := ns) hs fun k => (hm k).trans decide_eq_true_iff]
        exact fin_new p1 (x1.trans (xt_new hp)) (a1.lk.temp hp) (ints_rvs _) hl2
end
end PM

set_option Elab.async false
set_option linter.all false
set_option maxRecDepth 100000
set_option maxHeartbeats 4000000
/-! PM12: facts of defs, the end. -/
namespace PM
open PySem PySem.Spec PyProof.Rows L2
section
variable {X : Cx} {ca : Nat → Addr} {W : WX}
theorem Ok.blk {s : Shared} {H : Hp} {scope : Scope} {cenv : PySem.Env} {fp : List Addr} (hc : X.calm = true) : Ok (X.blk s H scope cenv fp) W0 := ⟨takes0, PassesOwn.never, hc⟩
theorem Ok.zero (o : Ok X W) : Ok X W0 := ⟨takes0, o.hp, o.calm⟩
theorem qts_nil : PTs X [] (tG X.K ca relB W0 tYesD) := ⟨fun pins s σ H Q I ⟨α, st, ρ, a, p⟩ => pts_nil.run pins s σ H Q I (p α H true .refl a.lk rfl)⟩
theorem qts_one {c : Expr} {t : ET} (h : QT X ca W0 c t) : PTs X [c] (tG X.K ca relB W0 t) := pts_one h
theorem hu1_of {A : Around} {k : Nat} (hr : Room k A) : A.units + 1 < cLine := by have := hr.un; omega
theorem hu64_of {A : Around} {k : Nat} (hr : Room k A) : A.units + 64 < cLine := by have := hr.un; omega
theorem hu65_of {A : Around} {k : Nat} (hr : Room k A) : A.units + 65 < cLine := by have := hr.un; omega
end
def TopF (K : Frag) (mg : Str → Option Value) (x : Str) (st : Stmt) : Prop := ∃ f fd, mg x = some (.ref f) ∧ PySem.W.keepIn K (.ref f) = true ∧ Fun K x x st f fd
def MetF (K : Frag) (C : Addr) (x qual : Str) (st : Stmt) : Prop := ∃ f fd, Cls K C ∧ Meth K C x f ∧ Fun K x qual st f fd
def MkF (K : Frag) (mg : Str → Option Value) (C : Addr) (c qual : Str) (st : Stmt) : Prop := ∃ f fd, mg c = some (.ref C) ∧ Mk K C f ∧ Fun K "__init__" qual st f fd
structure ExF (K : Frag) (mg : Str → Option Value) (C : Addr) (x : Str) : Prop where
  g : mg x = some (.ref C)
  q : PySem.W.excIn K C [.type "ValueError", .type "Exception", .type "BaseException", .type "object"] "ValueError.__new__" = true
  k : PySem.W.keepIn K (.ref C) = true
  b : PySem.W.subIn K (.ref C) (.type "BaseException") = some true
  t : PySem.W.typeIn K (.ref C) = some (.type "type")
theorem exC_of {X : Cx} {ca : Nat → Addr} {c : Nat} {x : Str} (e : ExF X.K X.mg (ca c) x) : ExC X ca c x := ⟨e.g, e.q, e.k, e.b, e.t⟩
theorem exm_of {K : Frag} {S U : Addr} {b : Bool} (h1 : PySem.W.subIn K (.ref U) (.type "BaseException") = some true) (h2 : PySem.W.isClsIn K U = true) (h3 : PySem.W.typeIn K (.ref U) = some (.type "type")) (h4 : PySem.W.subIn K (.ref S) (.ref U) = some b) : PySem.W.exmOne K (.ref S) (.ref U) = some b := by
  have a1 : (PySem.W.subIn K (.ref U) (.type "BaseException") == some true) = true := by rw [h1]; rfl
  have h2' : (PySem.W.clsIn K U).isSome = true := h2
  have a2 : ((PySem.W.clsIn K U).isSome && PySem.W.typeIn K (.ref U) == some (.type "type")) = true := by rw [h2', h3]; rfl
  unfold PySem.W.exmOne
  rw [if_pos a1]
  show (if ((PySem.W.clsIn K U).isSome && PySem.W.typeIn K (.ref U) == some (.type "type")) = true then PySem.W.subIn K (.ref S) (.ref U) else none) = some b
  rw [if_pos a2, h4]
section
variable {P : Program} {w : World} {K : Frag} {mg : Str → Option Value} {base : Heap} {ca : Nat → Addr} {k : Nat} {x qual : Str} {st : Stmt} {ps : List Str} {m : M}
theorem Fn.of (T : TopF K mg x st) (hB : ∀ (kV doc pm : Value) (an : Option Addr) (cdv ct : Value) (us : List Value), us.length = ps.length → bindArgs (PySem.W.fnOf x x (defArgs st) (defBody st) (defScope st) .none kV doc pm an cdv ct) ⟨us, []⟩ = pure (ps.zip us))
    (h : ∀ f fd, Fun K x x st f fd → FnOk P w K mg base (L2.CX P w) k f fd ps (spOf K ca ps.length m)) : Fn P w K mg base ca k x ps m := by
  obtain ⟨f, fd, h1, h2, F⟩ := T
  exact ⟨f, fd, h1, h2, F.binds hB, h f fd F⟩
theorem Md.of {c : Nat} (T : MetF K (ca c) x qual st) (hB : ∀ (kV doc pm : Value) (an : Option Addr) (cdv ct : Value) (us : List Value), us.length = ps.length → bindArgs (PySem.W.fnOf x qual (defArgs st) (defBody st) (defScope st) .none kV doc pm an cdv ct) ⟨us, []⟩ = pure (ps.zip us))
    (h : ∀ f fd, Fun K x qual st f fd → FnOk P w K mg base (L2.CX P w) k f fd ps (spOf K ca ps.length m)) : Md P w K mg base ca k c x ps m := by
  obtain ⟨f, fd, h1, h2, F⟩ := T
  exact ⟨f, fd, h1, h2, F.binds hB, h f fd F⟩
theorem Cm.of {c : Nat} (T : MkF K mg (ca c) x qual st) (hB : ∀ (kV doc pm : Value) (an : Option Addr) (cdv ct : Value) (us : List Value), us.length = ps.length → bindArgs (PySem.W.fnOf "__init__" qual (defArgs st) (defBody st) (defScope st) .none kV doc pm an cdv ct) ⟨us, []⟩ = pure (ps.zip us))
    (h : ∀ f fd, Fun K "__init__" qual st f fd → FnOk P w K mg base (L2.CX P w) k f fd ps (spOf K ca ps.length m)) : Cm P w K mg base ca k c x ps m := by
  obtain ⟨f, fd, h1, h2, F⟩ := T
  exact ⟨f, fd, h1, h2, F.binds hB, h f fd F⟩
theorem fn_okn {f : Addr} {fd : FuncData} {N : List Str} {n p : Nat} {s : S} (F : Fun K x qual st f fd) (sc : FnScope N ps (defScope st)) (hn : N.length = n) (hp : ps.length = p)
    (hb : ∀ (cdv : Value) (A : Around) (outer : List PySem.Env) (s0 : Shared) (H : Hp) (E : XK), Room k (A.deeper (envOfC qual (defScope st) s0.heap.objs.size f cdv)) →
      Ok (cxOf (L2.CX P w) P w K mg base N qual (defScope st) f cdv A outer s0 H E) (fun c d _ H => E c d H) →
      QFs (cxOf (L2.CX P w) P w K mg base N qual (defScope st) f cdv A outer s0 H E) ca (fun c d _ H => E c d H) (defBody st) s) :
    FnOk P w K mg base (L2.CX P w) (k + 1) f fd ps (spOf K ca p (mDef n s)) := by
  subst hn hp
  exact fn_ok F sc hb
theorem fn_bad {f : Addr} {fd : FuncData} : FnOk P w K mg base (L2.CX P w) k f fd ps (spOf K ca ps.length fun _ _ => .bad) := ⟨fun vs H Q E h => h.1, fun A outer s H args us vs Q E hr he hb hv h => by
  obtain ⟨_, _, _, _, _, _, p⟩ := h
  exact p.elim⟩
/-- the law's own promise -/
def spLaw (K : Frag) : Sp := fun vs H Q _ => ∃ (a : Addr) (ns : List Int), vs = [.ref a] ∧ ConL K H a (ns.map V.int) ∧ ns.length ≤ 63 ∧ ∀ H', Q (.bl true) H'
theorem law_of {f : Addr} {fd : FuncData} (F : FnOk P w K mg base (L2.CX P w) k f fd ["script"] (spOf K ca 1 m)) (hm : ∀ ns : List Int, ns.length ≤ 63 → ∃ st, m [.con (ns.map D.int)] [] = .ok (.bl true) st) : FnOk P w K mg base (L2.CX P w) k f fd ["script"] (spLaw K) :=
  F.imp fun vs H Q E ⟨a, ns, e, hc, hl, q⟩ => by
    subst e
    obtain ⟨st, e⟩ := hm ns hl
    refine ⟨rfl, fun _ => 0, [], [.con (ns.map D.int)], ⟨fun n o h => by simp at h, fun i j hi => by simp at hi⟩, .cons (.con hc (ints_rvs ns)) .nil, ?_⟩
    rw [e]
    intro α' H' g x L r
    cases r
    exact q H'
end
theorem con_of {K : Frag} {H : Hp} {a : Addr} {xs : List V} (hO : L2.Only H) (h : SqL K H a xs) : ConL K H a xs := by
  rcases h with (h | ⟨o, h⟩) | h
  · rcases hO a with e | ⟨o, ys, e⟩
    · rw [h] at e; cases e
    · rw [h] at e; cases e
  · exact .inl ⟨o, h⟩
  · exact .inr h
theorem walk {l : PySem.W.OpenLaw} {q : Program} {loose : List Str} {XP : (Str → Option Value) → Heap → Prop} {YP : World → Heap → Prop} {d : DefRec} {K : Params → PySem.W.Frag} (k : Nat) (hr : Room k callerA) (hn : l.most = some 63) (hdf : d.params.defaults = [])
    (hY : ∀ (w : World) (h : Heap), YP w h → (K w.params).In h)
    (F : ∀ (w : World) (mg : Str → Option Value) (fa : Addr) (h : Heap), (K w.params).In h → h.Ns mainGlobals mg → mg d.name = some (.ref fa) →
      ∃ fd : FuncData, (∀ (s : Shared) (u : Value), BindsTo s fd ⟨[u], []⟩ [("script", u)]) ∧ ∀ base : Heap, (K w.params).In base → base.Ns mainGlobals mg → FnOk l.prog w (K w.params) mg base (L2.CX l.prog w) k fa fd ["script"] (spLaw (K w.params))) :
    PySem.W.WalkO q loose XP YP l.row.toRowW d [] (fun f vs => PySem.call f vs) :=
  L2.walk_of (n := 63) (k := k) (x := "script") (CX := fun w => L2.CX l.prog w) (sp := fun w => spLaw (K w.params)) hn (by decide) hdf hr hY F (fun _ _ a ns hl hO hS => ⟨a, ns, rfl, con_of hO hS, hl, fun _ => rfl⟩) fun w H s e s' ⟨_, _, _, _, _, _, _, _, _, _, _, _, z⟩ => z
end PM

set_option Elab.async false
set_option linter.all false
set_option maxRecDepth 100000
set_option maxHeartbeats 4000000
/-! PM13: running a mirror (printed by genev.py). -/
namespace PM
open PySem PySem.Spec PyProof.Rows L2
open Classical in
@[simp] theorem cVar_ap (i : Nat)  (ρ : Env) (st : Sto) : cVar i ρ st = (match ρ[i]? with
  | some (some d) => .ok d st
  | _ => .bad) := rfl
@[simp] theorem cC_ap (d : D)  (ρ : Env) (st : Sto) : cC d ρ st = .ok d st := rfl
@[simp] theorem cOp2_ap (f : D → D → Sto → R D) (a b : E)  (ρ : Env) (st : Sto) : cOp2 f a b ρ st = (a ρ st).bind fun x st => (b ρ st).bind fun y st => f x y st := rfl
@[simp] theorem cTst_ap (e : E)  (ρ : Env) (st : Sto) : cTst e ρ st = asB (e ρ st) := rfl
@[simp] theorem cChain_ap (f g : D → D → Sto → R D) (a b c : E)  (ρ : Env) (st : Sto) : cChain f g a b c ρ st = ((a ρ st).bind fun x st => (b ρ st).bind fun y st => (asB (f x y st)).bind fun k st =>
  match k with
  | true => (c ρ st).bind fun z st => g y z st
  | false => .ok (.bl false) st) := rfl
@[simp] theorem cOp1_ap (f : D → Sto → R D) (a : E)  (ρ : Env) (st : Sto) : cOp1 f a ρ st = (a ρ st).bind fun x st => f x st := rfl
@[simp] theorem cAnd_ap (a b : E)  (ρ : Env) (st : Sto) : cAnd a b ρ st = ((a ρ st).bind fun x st => match x with
  | .bl true => b ρ st
  | .bl false => .ok (.bl false) st
  | _ => .bad) := rfl
@[simp] theorem cOr_ap (a b : E)  (ρ : Env) (st : Sto) : cOr a b ρ st = ((a ρ st).bind fun x st => match x with
  | .bl false => b ρ st
  | .bl true => .ok (.bl true) st
  | _ => .bad) := rfl
@[simp] theorem cNot_ap (a : E)  (ρ : Env) (st : Sto) : cNot a ρ st = ((a ρ st).bind fun x st => match x with
  | .bl k => .ok (.bl (!k)) st
  | _ => .bad) := rfl
@[simp] theorem tAndD_ap (a b : ET)  (ρ : Env) (st : Sto) : tAndD a b ρ st = ((a ρ st).bind fun k st => match k with
  | true => b ρ st
  | false => .ok false st) := rfl
@[simp] theorem tOrD_ap (a b : ET)  (ρ : Env) (st : Sto) : tOrD a b ρ st = ((a ρ st).bind fun k st => match k with
  | true => .ok true st
  | false => b ρ st) := rfl
@[simp] theorem tNotD_ap (a : ET)  (ρ : Env) (st : Sto) : tNotD a ρ st = (a ρ st).bind fun k st => .ok (!k) st := rfl
@[simp] theorem cTru_ap (e : E)  (ρ : Env) (st : Sto) : cTru e ρ st = (e ρ st).bind fun x st => truD x st := rfl
@[simp] theorem cIf_ap (t : ET) (a b : E)  (ρ : Env) (st : Sto) : cIf t a b ρ st = ((t ρ st).bind fun k st => match k with
  | true => a ρ st
  | false => b ρ st) := rfl
@[simp] theorem cTup_ap (es : List E)  (ρ : Env) (st : Sto) : cTup es ρ st = (cArgs es ρ st).bind fun xs st => .ok (.tup xs) st := rfl
@[simp] theorem cNew_ap (e : EL)  (ρ : Env) (st : Sto) : cNew e ρ st = (e ρ st).bind fun xs st => .ok (.loc st.length) (st ++ [.lst xs]) := rfl
@[simp] theorem cSeq_ap (e : E)  (ρ : Env) (st : Sto) : cSeq e ρ st = (e ρ st).bind seqD := rfl
@[simp] theorem cB1_ap {β : Type} (f : D → Sto → R β) (e : E)  (ρ : Env) (st : Sto) : cB1 f e ρ st = (e ρ st).bind f := rfl
@[simp] theorem cS1_ap {β : Type} (f : List D → Sto → R β) (e : EL)  (ρ : Env) (st : Sto) : cS1 f e ρ st = (e ρ st).bind f := rfl
@[simp] theorem cIxL_ap (e : EL) (b : E)  (ρ : Env) (st : Sto) : cIxL e b ρ st = (e ρ st).bind fun xs st => (b ρ st).bind fun y st => atD xs y st := rfl
@[simp] theorem cNoPart_ap  (ρ : Env) (st : Sto) : cNoPart  ρ st = .ok none st := rfl
@[simp] theorem cPart_ap (e : E)  (ρ : Env) (st : Sto) : cPart e ρ st = ((e ρ st).bind fun x st => match x with
  | .int i => .ok (some i) st
  | _ => .bad) := rfl
@[simp] theorem cSlice_ap (e : E) (lo hi : EO)  (ρ : Env) (st : Sto) : cSlice e lo hi ρ st = (e ρ st).bind fun x st => (lo ρ st).bind fun l st => (hi ρ st).bind fun h st => sliceD x l h st := rfl
@[simp] theorem cLs_ap (e : E)  (ρ : Env) (st : Sto) : cLs e ρ st = (e ρ st).bind lstD := rfl
@[simp] theorem cCatL_ap (a b : EL)  (ρ : Env) (st : Sto) : cCatL a b ρ st = (a ρ st).bind fun xs st => (b ρ st).bind fun ys st => catL xs ys st := rfl
@[simp] theorem cCatE_ap (a : E) (b : EL)  (ρ : Env) (st : Sto) : cCatE a b ρ st = (a ρ st).bind fun x st => (b ρ st).bind fun ys st => (lstD x st).bind fun xs st => catL xs ys st := rfl
@[simp] theorem cRepL_ap (a : EL) (b : E)  (ρ : Env) (st : Sto) : cRepL a b ρ st = ((a ρ st).bind fun xs st => (b ρ st).bind fun y st => match y with
  | .int k => if -(2 ^ 63) ≤ k ∧ k < 2 ^ 63 ∧ xs.length * k.toNat ≤ sizeLine then .ok (List.replicate k.toNat xs).flatten st else .bad
  | _ => .bad) := rfl
@[simp] theorem sNext_ap  (ρ : Env) (st : Sto) : sNext  ρ st = .nx ρ st := rfl
@[simp] theorem sSeq_ap (a b : S)  (ρ : Env) (st : Sto) : sSeq a b ρ st = (match a ρ st with
  | .nx ρ' st' => b ρ' st'
  | .rt d st' => .rt d st'
  | .bk ρ' st' => .bk ρ' st'
  | .ct ρ' st' => .ct ρ' st'
  | .exc c fs ρ' st' => .exc c fs ρ' st'
  | .bad => .bad) := rfl
@[simp] theorem sBreak_ap  (ρ : Env) (st : Sto) : sBreak  ρ st = .bk ρ st := rfl
@[simp] theorem sCont_ap  (ρ : Env) (st : Sto) : sCont  ρ st = .ct ρ st := rfl
@[simp] theorem sExp_ap (e : E)  (ρ : Env) (st : Sto) : sExp e ρ st = fE (e ρ st) ρ fun _ st => .nx ρ st := rfl
@[simp] theorem sRet_ap (e : E)  (ρ : Env) (st : Sto) : sRet e ρ st = fE (e ρ st) ρ fun d st => .rt d st := rfl
@[simp] theorem sRetN_ap  (ρ : Env) (st : Sto) : sRetN  ρ st = .rt .non st := rfl
@[simp] theorem sIf_ap (t : ET) (a b : S)  (ρ : Env) (st : Sto) : sIf t a b ρ st = (fE (t ρ st) ρ fun k st => match k with
  | true => a ρ st
  | false => b ρ st) := rfl
@[simp] theorem sAsg_ap (e : E) (g : G)  (ρ : Env) (st : Sto) : sAsg e g ρ st = (fE (e ρ st) ρ fun d st => match g d ρ with
  | some ρ' => .nx ρ' st
  | none => .bad) := rfl
@[simp] theorem sSet_ap (i : Nat) (e : E)  (ρ : Env) (st : Sto) : sSet i e ρ st = fE (e ρ st) ρ fun d st => .nx (ρ.set i (some d)) st := rfl
@[simp] theorem sPar_ap (i j : Nat) (es : List E)  (ρ : Env) (st : Sto) : sPar i j es ρ st = (fE (cArgs es ρ st) ρ fun ds st => match ds with
  | [d, e] => .nx ((ρ.set i (some d)).set j (some e)) st
  | _ => .bad) := rfl
@[simp] theorem sAug_ap (i : Nat) (f : D → D → Sto → R D) (e : E)  (ρ : Env) (st : Sto) : sAug i f e ρ st = (match ρ[i]? with
  | some (some x) => fE (e ρ st) ρ fun y st => fE (f x y st) ρ fun z st => .nx (ρ.set i (some z)) st
  | _ => .bad) := rfl
@[simp] theorem sFldD_ap (cs : List Nat) (f : Str) (o e : E)  (ρ : Env) (st : Sto) : sFldD cs f o e ρ st = (fE (e ρ st) ρ fun d st => fE (o ρ st) ρ fun x st => match x with
  | .loc n => match st[n]? with
    | some (.ins c fs) => if c ∈ cs ∧ fs.length < 1000 then .nx ρ (st.set n (.ins c (putFD f d fs))) else .bad
    | _ => .bad
  | _ => .bad) := rfl
@[simp] theorem sFldAugD_ap (cs : List Nat) (f : Str) (g : D → D → Sto → R D) (o e : E)  (ρ : Env) (st : Sto) : sFldAugD cs f g o e ρ st = (fE (o ρ st) ρ fun x st => match x with
  | .loc n => match st[n]? with
    | some (.ins c fs) => if c ∈ cs then match fs.lookup f with
      | some v => fE (e ρ st) ρ fun y st => fE (g v y st) ρ fun z st => match st[n]? with
        | some (.ins c' fs') => if c' = c ∧ fs'.length < 1000 then .nx ρ (st.set n (.ins c (putFD f z fs'))) else .bad
        | _ => .bad
      | none => .bad else .bad
    | _ => .bad
  | _ => .bad) := rfl
@[simp] theorem sSub_ap (o i e : E)  (ρ : Env) (st : Sto) : sSub o i e ρ st = (fE (e ρ st) ρ fun d st => fE (o ρ st) ρ fun x st => fE (i ρ st) ρ fun y st => match setD x y d st with
  | some st' => .nx ρ st'
  | none => .bad) := rfl
@[simp] theorem sDel_ap (o i : E)  (ρ : Env) (st : Sto) : sDel o i ρ st = (fE (o ρ st) ρ fun x st => fE (i ρ st) ρ fun y st => match delD x y st with
  | some st' => .nx ρ st'
  | none => .bad) := rfl
@[simp] theorem cItr_ap (e : E)  (ρ : Env) (st : Sto) : cItr e ρ st = (e ρ st).bind itrD := rfl
@[simp] theorem cItl_ap (e : EL)  (ρ : Env) (st : Sto) : cItl e ρ st = (e ρ st).bind fun xs st => .ok ⟨fun _ => True, xs⟩ st := rfl
@[simp] theorem cRng1_ap (e : E)  (ρ : Env) (st : Sto) : cRng1 e ρ st = (e ρ st).bind rng1D := rfl
@[simp] theorem cRng2_ap (e f : E)  (ρ : Env) (st : Sto) : cRng2 e f ρ st = (e ρ st).bind fun x st => (f ρ st).bind fun y st => rng2D x y st := rfl
@[simp] theorem sFor_ap (e : EI) (g : G) (body : S)  (ρ : Env) (st : Sto) : sFor e g body ρ st = fE (e ρ st) ρ fun b st => forGo b.chk g body b.xs ρ st := rfl
@[simp] theorem cComp_ap (e : EI) (t : CT) (tt : ET) (te : E) (vs : List Nat)  (ρ : Env) (st : Sto) : cComp e t tt te vs ρ st = ((e ρ st).bind fun b st =>
  if b.xs.length ≤ sizeLine then compGo b.chk t tt te (wipeD ρ vs) b.xs st else .bad) := rfl
@[simp] theorem tYesD_ap  (ρ : Env) (st : Sto) : tYesD  ρ st = .ok true st := rfl
@[simp] theorem cCall_ap (m : M) (es : List E)  (ρ : Env) (st : Sto) : cCall m es ρ st = (cArgs es ρ st).bind m := rfl
@[simp] theorem cMeth_ap (c : Nat) (x : Str) (m : M) (o : E) (es : List E)  (ρ : Env) (st : Sto) : cMeth c x m o es ρ st = ((o ρ st).bind fun d st => match d with
  | .loc n => match st[n]? with
    | some (.ins c' fs) => if c' = c ∧ fs.lookup x = none then (cArgs es ρ st).bind fun ds st => m (d :: ds) st else .bad
    | _ => .bad
  | _ => .bad) := rfl
@[simp] theorem cMake_ap (c : Nat) (m : M) (es : List E)  (ρ : Env) (st : Sto) : cMake c m es ρ st = (cArgs es ρ st).bind fun ds st => (m (.loc st.length :: ds) (st ++ [.ins c []])).bind (nonTo st.length) := rfl
@[simp] theorem sRaise_ap (c : Nat)  (ρ : Env) (st : Sto) : sRaise c ρ st = .exc c [] ρ st := rfl
@[simp] theorem sTry_ap (mt : Nat → Option Bool) (body h : S)  (ρ : Env) (st : Sto) : sTry mt body h ρ st = (match body ρ st with
  | .exc c fs ρ' st' => match mt c with
    | some true => fNx (h ρ' st')
    | some false => .exc c fs ρ' st'
    | none => .bad
  | f => f) := rfl
@[simp] theorem cInL_ap (neg : Bool) (a : E) (b : EL)  (ρ : Env) (st : Sto) : cInL neg a b ρ st = ((a ρ st).bind fun x st => (b ρ st).bind fun ys st => match inSeq x ys with
  | some k => .ok (.bl (neg ^^ k)) st
  | none => .bad) := rfl
@[simp] theorem cNewD_ap (e : ED)  (ρ : Env) (st : Sto) : cNewD e ρ st = (e ρ st).bind fun xs st => .ok (.loc st.length) (st ++ [.dct xs]) := rfl
@[simp] theorem cD0_ap  (ρ : Env) (st : Sto) : cD0  ρ st = .ok [] st := rfl
@[simp] theorem cDisp_ap (r : List (E × E))  (ρ : Env) (st : Sto) : cDisp r ρ st = (cPairs r ρ st).bind fun ps st => .ok (mergeD [] ps) st := rfl
@[simp] theorem cDict_ap (e : E)  (ρ : Env) (st : Sto) : cDict e ρ st = (e ρ st).bind dctD := rfl
@[simp] theorem cDictL_ap (e : EL)  (ρ : Env) (st : Sto) : cDictL e ρ st = ((e ρ st).bind fun xs st => match prsD xs with
  | some ps => .ok (mergeD [] ps) st
  | none => .bad) := rfl
@[simp] theorem cKeys_ap (e : E)  (ρ : Env) (st : Sto) : cKeys e ρ st = ((e ρ st).bind dctD).bind fun kvs st => .ok (kvs.map fun kv => kD kv.1) st := rfl
@[simp] theorem cSortedD_ap (e : E)  (ρ : Env) (st : Sto) : cSortedD e ρ st = (((e ρ st).bind dctD).bind fun kvs st => match intKeys kvs with
  | some ns => if ns.length < 64 then .ok ((sortI ns).map D.int) st else .bad
  | none => .bad) := rfl
@[simp] theorem cGet_ap (d k : E)  (ρ : Env) (st : Sto) : cGet d k ρ st = ((d ρ st).bind fun x st => (dctD x st).bind fun _ st => (k ρ st).bind fun y st => (dctD x st).bind fun kvs st => match keyD y with
  | some k => .ok ((valD kvs k).getD .non) st
  | none => .bad) := rfl
@[simp] theorem cGet2_ap (d k z : E)  (ρ : Env) (st : Sto) : cGet2 d k z ρ st = ((d ρ st).bind fun x st => (dctD x st).bind fun _ st => (k ρ st).bind fun y st => (z ρ st).bind fun u st => (dctD x st).bind fun kvs st => match keyD y with
  | some k => .ok ((valD kvs k).getD u) st
  | none => .bad) := rfl
@[simp] theorem lockAt_ap (p : E)  (ρ : Env) (st : Sto) : lockAt p ρ st = (match p ρ st with
  | .ok (.loc n) _ => match st[n]? with
    | some (.dct kvs) => some (n, kvs)
    | _ => none
  | _ => none) := rfl
@[simp] theorem lockD_ap {β : Type} (p : E) (e : Env → Sto → R β)  (ρ : Env) (st : Sto) : lockD p e ρ st = (match lockAt p ρ st with
  | some (n, kvs) => lockGo n (e ρ (st.set n (.fdc kvs)))
  | none => .bad) := rfl
@[simp] theorem cKeysI_ap (e : E)  (ρ : Env) (st : Sto) : cKeysI e ρ st = (e ρ st).bind keysD := rfl
@[simp] theorem pairD_ap (ek ev : E)  (ρ : Env) (st : Sto) : pairD ek ev ρ st = ((ek ρ st).bind fun k st => (ev ρ st).bind fun v st => match keyD k with
  | some k => .ok (k, v) st
  | none => .bad) := rfl
@[simp] theorem cDComp_ap (e : EI) (t : CT) (tt : ET) (ek ev : E) (vs : List Nat)  (ρ : Env) (st : Sto) : cDComp e t tt ek ev vs ρ st = ((e ρ st).bind fun b st =>
  if b.xs.length ≤ sizeLine then (compGo b.chk t tt (pairD ek ev) (wipeD ρ vs) b.xs st).bind fun ps st => .ok (mergeD [] ps) st else .bad) := rfl

@[simp] theorem cArgs_nil (ρ : Env) (st : Sto) : cArgs [] ρ st = .ok [] st := rfl
@[simp] theorem cArgs_cons (e : E) (es : List E) (ρ : Env) (st : Sto) : cArgs (e :: es) ρ st = (e ρ st).bind fun x st => (cArgs es ρ st).bind fun xs st => .ok (x :: xs) st := rfl
@[simp] theorem cLst_ap (es : List E) (ρ : Env) (st : Sto) : cLst es ρ st = cArgs es ρ st := rfl
@[simp] theorem asB_ok (b : Bool) (st : Sto) : asB (.ok (.bl b) st) = .ok b st := rfl
@[simp] theorem asB_exc (c : Nat) (fs : List (Str × D)) (st : Sto) : asB (.exc c fs st) = .exc c fs st := rfl
@[simp] theorem cNx_ok {β : Type} (b : β) (st : Sto) : cNx (.ok b st) = .ok b st := rfl
end PM

set_option Elab.async false
set_option linter.all false
set_option maxRecDepth 100000
set_option maxHeartbeats 1000000
/-! PM14: stores, garbage. -/
namespace PM
open PySem L2
open Classical
theorem get_set_ne {st : Sto} {n m : Nat} {o : O} (h : m ≠ n) : (st.set n o)[m]? = st[m]? := List.getElem?_set_ne (Ne.symm h)
theorem get_set_eq {st : Sto} {n : Nat} {o o' : O} (h : st[n]? = some o') : (st.set n o)[n]? = some o := List.getElem?_set_self (List.getElem?_eq_some_iff.mp h).1
theorem get_app {st : Sto} {n : Nat} {o : O} {g : Sto} (h : st[n]? = some o) : (st ++ g)[n]? = some o := by
  rw [List.getElem?_append_left (List.getElem?_eq_some_iff.mp h).1]; exact h
theorem get_new {st : Sto} {o : O} {g : Sto} : (st ++ o :: g)[st.length]? = some o := by
  rw [List.getElem?_append_right (Nat.le_refl _), Nat.sub_self]; rfl
theorem lt_get {st : Sto} {n : Nat} {o : O} (h : st[n]? = some o) : n < st.length := (List.getElem?_eq_some_iff.mp h).1
theorem gcR_same {st st' : Sto} {d : D} (h : st'.length = st.length) : gcR st (.ok d st') = .ok d st' := by
  show (if st <+: st' ∧ below st.length d = true then R.ok d st else .ok d st') = _
  split
  · rename_i hp
    rw [hp.1.eq_of_length h.symm]
  · rfl
theorem gcR_pure {st g : Sto} {d : D} (h : below st.length d = true) : gcR st (.ok d (st ++ g)) = .ok d st := by
  show (if st <+: st ++ g ∧ below st.length d = true then R.ok d st else .ok d (st ++ g)) = _
  rw [if_pos ⟨List.prefix_append st g, h⟩]
theorem gcR_id {st : Sto} {d : D} : gcR st (.ok d st) = .ok d st := gcR_same rfl
theorem gcR_exc {st st' : Sto} {c : Nat} (h : st'.length = st.length) : gcR st (.exc c [] st') = .exc c [] st' := by
  show (if st <+: st' ∧ ([] : List (Str × D)) = [] then R.exc c [] st else .exc c [] st') = _
  split
  · rename_i hp
    rw [hp.1.eq_of_length h.symm]
  · rfl
theorem gcR_new {st st' : Sto} {d : D} {n : Nat} (hn : n < st.length) (h : st'[n]? ≠ st[n]?) : gcR st (.ok d st') = .ok d st' := by
  show (if st <+: st' ∧ below st.length d = true then R.ok d st else .ok d st') = _
  rw [if_neg]
  rintro ⟨⟨g, rfl⟩, _⟩
  exact h (List.getElem?_append_left hn)
/-- x[i] of a list -/
theorem atI_nat {α : Type} {xs : List α} {i : Nat} {x : α} (h : xs[i]? = some x) : L2.atI xs (i : Int) = some x := by
  have hi := (List.getElem?_eq_some_iff.mp h).1
  unfold L2.atI L2.ixN
  rw [if_pos (Int.natCast_nonneg i), if_pos (by omega)]
  simpa using h
theorem getD_lst {st : Sto} {n : Nat} {xs : List D} {y : D} (h : st[n]? = some (.lst xs)) : getD (.loc n) y st = atD xs y st := by
  simp only [getD, h]
theorem getD_dct {st : Sto} {n : Nat} {xs : List (Key × D)} {y : D} (h : st[n]? = some (.dct xs)) : getD (.loc n) y st = atK xs y st := by
  simp only [getD, h]
theorem getD_fdc {st : Sto} {n : Nat} {xs : List (Key × D)} {y : D} (h : st[n]? = some (.fdc xs)) : getD (.loc n) y st = atK xs y st := by
  simp only [getD, h]
theorem setD_lst {st : Sto} {n : Nat} {xs : List D} {k : Int} {v : D} (h : st[n]? = some (.lst xs)) : setD (.loc n) (.int k) v st = (L2.ixN xs.length k).map fun j => st.set n (.lst (xs.set j v)) := by
  simp only [setD, h]
theorem setD_dct {st : Sto} {n : Nat} {kvs : List (Key × D)} {i : D} {k : Key} {v : D} (h : st[n]? = some (.dct kvs)) (hk : keyD i = some k) (hz : kvs.length < sizeLine) : setD (.loc n) i v st = some (st.set n (.dct (putD kvs k v))) := by
  simp only [setD, h, hk, if_pos hz]
theorem lenD_lst {st : Sto} {n : Nat} {xs : List D} (h : st[n]? = some (.lst xs)) : lenD (.loc n) st = .ok (.int xs.length) st := by
  simp only [lenD, h]
@[simp] theorem int2_int (C : Int → Int → Bool) (g : Int → Int → Int) (i j : Int) (st : Sto) : int2 C g (.int i) (.int j) st = if C i j = true then .ok (.int (g i j)) st else .bad := rfl
@[simp] theorem cmpI_int (g : Int → Int → Bool) (i j : Int) (st : Sto) : cmpI g (.int i) (.int j) st = .ok (.bl (g i j)) st := rfl
@[simp] theorem eqD_int (i j : Int) (st : Sto) : eqD (.int i) (.int j) st = .ok (.bl (decide (i = j))) st := rfl
@[simp] theorem neD_int (i j : Int) (st : Sto) : neD (.int i) (.int j) st = .ok (.bl (!decide (i = j))) st := rfl
@[simp] theorem eqD_str (i j : Str) (st : Sto) : eqD (.str i) (.str j) st = .ok (.bl (decide (i = j))) st := rfl
@[simp] theorem eqD_bl (i j : Bool) (st : Sto) : eqD (.bl i) (.bl j) st = .ok (.bl (decide (i = j))) st := rfl
@[simp] theorem neD_bl (i j : Bool) (st : Sto) : neD (.bl i) (.bl j) st = .ok (.bl (!decide (i = j))) st := rfl
@[simp] theorem addD_int (i j : Int) (st : Sto) : addD (.int i) (.int j) st = .ok (.int (i + j)) st := rfl
@[simp] theorem intD_int (i : Int) (st : Sto) : intD (.int i) st = .ok (.int i) st := rfl
@[simp] theorem subD_int (i j : Int) (st : Sto) : subD (.int i) (.int j) st = .ok (.int (i - j)) st := rfl
theorem modD_int {i j : Int} (st : Sto) (h : j ≠ 0) : modD (.int i) (.int j) st = .ok (.int (i.fmod j)) st := by
  show (if modC i j = true then R.ok (D.int (i.fmod j)) st else .bad) = _
  rw [if_pos (show modC i j = true from decide_eq_true h)]
theorem fdivD_int {i j : Int} (st : Sto) (h : j ≠ 0) (h2 : j.natAbs.log2 < 9000) : fdivD (.int i) (.int j) st = .ok (.int (i.fdiv j)) st := by
  show (if fdivC i j = true then R.ok (D.int (i.fdiv j)) st else .bad) = _
  rw [if_pos]
  unfold fdivC
  simp [h, h2]
theorem mulD_int {i j : Int} (st : Sto) (h : -(2 ^ 64) < j ∧ j < 2 ^ 64) : mulD (.int i) (.int j) st = .ok (.int (i * j)) st := by
  show (if mulC i j = true then R.ok (D.int (i * j)) st else .bad) = _
  rw [if_pos]
  unfold mulC
  simp only [decide_eq_true h, Bool.or_true]
theorem small_log {n : Nat} (h : n < 2 ^ 64) : n.log2 < 9000 := by
  by_cases h0 : n = 0
  · subst h0; decide
  · exact Nat.lt_of_lt_of_le (Nat.log2_lt h0 |>.mpr h) (by decide)
/-! ### loops -/
theorem forGo_inv {chk : Sto → Prop} {g : G} {body : S} (P : Nat → Env → Sto → Prop) : ∀ (xs : List D) (k : Nat), (∀ k ρ st, P k ρ st → chk st) →
    (∀ i x, xs[i]? = some x → ∀ ρ st, P (k + i) ρ st → ∃ ρ1, g x ρ = some ρ1 ∧ ∃ ρ' st', (body ρ1 st = .nx ρ' st' ∨ body ρ1 st = .ct ρ' st') ∧ P (k + i + 1) ρ' st') →
    ∀ ρ st, P k ρ st → ∃ ρ' st', forGo chk g body xs ρ st = .nx ρ' st' ∧ P (k + xs.length) ρ' st'
  | [], k, hc, _, ρ, st, p => ⟨ρ, st, by simp [forGo, hc _ _ _ p], p⟩
  | x :: r, k, hc, hs, ρ, st, p => by
    obtain ⟨ρ1, e1, ρ2, st2, e2, p2⟩ := hs 0 x rfl ρ st p
    obtain ⟨ρ3, st3, e3, p3⟩ := forGo_inv P r (k + 1) hc (fun i y e ρ st q => by
      have := hs (i + 1) y (by simpa using e) ρ st (by rw [show k + (i + 1) = k + 1 + i by omega]; exact q)
      rw [show k + (i + 1) + 1 = k + 1 + i + 1 by omega] at this
      exact this) ρ2 st2 p2
    refine ⟨ρ3, st3, ?_, by rw [List.length_cons, show k + (r.length + 1) = k + 1 + r.length by omega]; exact p3⟩
    unfold forGo
    rw [if_pos (hc _ _ _ p), e1]
    dsimp only
    rcases e2 with e2 | e2 <;> rw [e2] <;> exact e3
theorem compGo_inv {β : Type} {chk : Sto → Prop} {t : CT} {te : Env → Sto → R β} {ρ : Env} (P : Nat → List β → Sto → Prop) : ∀ (xs : List D) (k : Nat) (acc : List β), (∀ k acc st, P k acc st → chk st) →
    (∀ i x, xs[i]? = some x → ∀ acc st, P (k + i) acc st → ∃ ρ1, t.set x ρ = some ρ1 ∧ ∃ y st', te ρ1 st = .ok y st' ∧ P (k + i + 1) (acc ++ [y]) st') →
    ∀ st, P k acc st → ∃ ys st', compGo chk t tYesD te ρ xs st = .ok ys st' ∧ P (k + xs.length) (acc ++ ys) st'
  | [], k, acc, hc, _, st, p => ⟨[], st, by simp [compGo, hc _ _ _ p], by simpa using p⟩
  | x :: r, k, acc, hc, hs, st, p => by
    obtain ⟨ρ1, e1, y, st2, e2, p2⟩ := hs 0 x rfl acc st p
    obtain ⟨ys, st3, e3, p3⟩ := compGo_inv P r (k + 1) (acc ++ [y]) hc (fun i y e acc st q => by
      have := hs (i + 1) y (by simpa using e) acc st (by rw [show k + (i + 1) = k + 1 + i by omega]; exact q)
      rw [show k + (i + 1) + 1 = k + 1 + i + 1 by omega] at this
      exact this) st2 p2
    refine ⟨y :: ys, st3, ?_, ?_⟩
    · unfold compGo
      rw [if_pos (hc _ _ _ p), e1]
      dsimp only
      simp [e2, e3]
    · rw [List.length_cons, show k + (r.length + 1) = k + 1 + r.length by omega]
      simpa using p3
theorem compGo_pure {β : Type} {chk : Sto → Prop} {t : CT} {tt : ET} {te : Env → Sto → R β} {ρ : Env} {st : Sto} (b : D → Bool) (y : D → β) (hc : chk st) : ∀ xs : List D, (∀ x ∈ xs, ∃ ρ1, t.set x ρ = some ρ1 ∧ tt ρ1 st = .ok (b x) st ∧ (b x = true → te ρ1 st = .ok (y x) st)) → compGo chk t tt te ρ xs st = .ok ((xs.filter b).map y) st
  | [], _ => by simp [compGo, hc]
  | x :: r, h => by
    obtain ⟨ρ1, e1, e2, e3⟩ := h x List.mem_cons_self
    have ih := compGo_pure b y hc r fun x hx => h x (List.mem_cons_of_mem _ hx)
    unfold compGo
    rw [if_pos hc, e1]
    dsimp only
    rw [e2]
    cases hb : b x with
    | false => rw [List.filter_cons, hb]; simpa using ih
    | true =>
      rw [List.filter_cons, hb]
      simp [e3 hb, ih]
/-- a dict made of pairs whose keys are all different -/
theorem merge_append : ∀ (ps acc : List (Key × D)), ((acc ++ ps).map (·.1)).Nodup → mergeD acc ps = acc ++ ps
  | [], acc, _ => by simp [mergeD]
  | (k, v) :: r, acc, h => by
    have e : putD acc k v = acc ++ [(k, v)] := by
      unfold putD
      rw [if_neg]
      intro z
      obtain ⟨p, hp, e⟩ := List.any_eq_true.mp z
      have e := of_decide_eq_true e
      rw [List.map_append, List.nodup_append] at h
      exact h.2.2 p.1 (List.mem_map_of_mem hp) k (by simp) e
    show mergeD (putD acc k v) r = _
    rw [e, merge_append r (acc ++ [(k, v)]) (by simpa using h)]
    simp
theorem merge_nodup {ps : List (Key × D)} (h : (ps.map (·.1)).Nodup) : mergeD [] ps = ps := merge_append ps [] h
end PM

set_option Elab.async false
set_option linter.all false
set_option maxRecDepth 100000
set_option maxHeartbeats 4000000
/-! PM15: append, extend, sorted of tuples, str, repr. -/
namespace PM
open PySem PySem.Spec PyProof.Rows L2
section
variable {X : Cx} {ca : Nat → Addr} {W : WX} {a b c o : Expr} {ea eb ec eo : E} {pos : Pos} {es : List Expr} {x : Str} {p0 apos cpos : Pos}
theorem lstD_ok {K : Frag} {α α0 : Nat → Addr} {st : Sto} {N0 : Nat} {H H0 : Hp} {d : D} {v : V} {β γ : Type} {rel : Rel β γ} {W : XK} {Q : γ → Hp → Prop} {f : List D → Sto → R β} (L : Lk K ca α st H) (r : RV K α st.length H d v) (p : Post K ca rel α0 N0 H0 W Q ((lstD d st).bind f)) :
    ∃ n xs vs, d = .loc n ∧ st[n]? = some (.lst xs) ∧ v = .ref (α n) ∧ H (α n) = some (.lst vs) ∧ RVs K α st.length H xs vs ∧ Post K ca rel α0 N0 H0 W Q (f xs st) := by
  cases r <;> try exact False.elim p
  simp only [lstD] at p
  split at p <;> try exact p.elim
  rename_i xs q1
  obtain ⟨vs, h1, r1⟩ := lk_lst L q1
  exact ⟨_, _, _, rfl, q1, rfl, h1, r1, p⟩
def appD (x : D) (ys : List D) (st : Sto) : R D := match x, ys with
  | .loc n, [y] => match st[n]? with
    | some (.lst xs) => if xs.length < sizeLine then .ok .non (st.set n (.lst (xs ++ [y]))) else .bad
    | _ => .bad
  | _, _ => .bad
def cApp (o e : E) : E := fun ρ st => (o ρ st).bind fun x st => (lstD x st).bind fun _ st => (cArgs [e] ρ st).bind fun ys st => appD x ys st
theorem qe_app (ho : QE X ca W o eo) (ha : QE X ca W a ea)
    (hbase : attributeBase o "append" X.env (eval o X.env) = eval o X.env := by rfl)
    (hfew : ((backTo cpos (starEach [a] X.env)).all (fun x => !x.1) && (backToKw cpos (keywordEach [] X.env)).all (fun x => x.1.isSome)
      && decide ([a].length + ([] : List Keyword).length + (if ([] : List Keyword).isEmpty then 0 else 1) < 30)) = true := by rfl)
    (hline : (apos.endLine == cpos.line) = true := by rfl) (hs : starEach [a] X.env = (false, eval a X.env) :: starEach [] X.env := by rfl) (hplain : (backTo cpos (starEach [] X.env)).any (·.1) = false := by rfl) :
    QE X ca W (.Call (.Attribute o "append" apos) [a] [] cpos) (cApp eo ea) :=
  peW (pe_bm PySem.F.plainAttrs_list PySem.F.slot_list_append PySem.F.type_list_append mt_append ho (qa_cons ha qa_nil hs) hbase hfew hline hs hplain) fun σ H Q ⟨α, st, ρ, at0, p⟩ => tG_next (rel := relV X.K) at0 .refl p fun α1 st1 d v H1 a1 _ x1 r1 p1 => by
    obtain ⟨n, xs, vs, rfl, h, rfl, h1, r, p2⟩ := lstD_ok a1.lk r1 p1
    refine ⟨.inl ⟨rfl, vs, .inl (.inl h1)⟩, tG_next (rel := relVs X.K) a1 x1 p2 fun α2 st2 ys us H2 a2 x2 xb r2 p3 => ?_⟩
    have hn := Lk.lt_of h
    match ys, us, r2, p3 with
    | [], _, _, p3 => exact p3.elim
    | [y], _, .cons ry .nil, p3 =>
      have p3 : Post X.K ca (relV X.K) α st.length H (fun c d H' => W c d σ H') Q (match st2[n]? with
        | some (.lst xs) => if xs.length < sizeLine then .ok .non (st2.set n (.lst (xs ++ [y]))) else .bad
        | _ => .bad) := p3
      split at p3 <;> try exact p3.elim
      rename_i xs' q1
      split at p3 <;> try exact p3.elim
      rename_i hz
      obtain ⟨vs', h2, r3⟩ := lk_lst a2.lk q1
      have L2' := a2.lk.write (o' := .lst (xs' ++ [y])) q1 h2 (fun _ z => by cases z) (fun _ _ z => by cases z) (.lst (r3.append (.cons ry .nil)))
      exact ⟨α1 n, vs', _, rfl, rfl, by rw [← x2.ag n hn]; exact h2, by rw [← r3.length]; exact hz, by rw [← x2.ag n hn]; exact p3 α2 _ _ (xb.trans L2'.2) L2'.1 .non⟩
    | _ :: _ :: _, _, _, p3 => exact p3.elim
/-- extend by a list in passing -/
def extD (x : D) (ys : List D) (st : Sto) : R D := match x with
  | .loc n => match st[n]? with
    | some (.lst xs) => if xs.length + ys.length ≤ sizeLine then .ok .non (st.set n (.lst (xs ++ ys))) else .bad
    | _ => .bad
  | _ => .bad
def cExt (o : E) (e : EL) : E := fun ρ st => (o ρ st).bind fun x st => (lstD x st).bind fun _ st => (e ρ st).bind fun ys st => extD x ys st
theorem qe_ext {e : EL} (ho : QE X ca W o eo) (ha : QM X ca W a e)
    (hbase : attributeBase o "extend" X.env (eval o X.env) = eval o X.env := by rfl)
    (hfew : ((backTo cpos (starEach [a] X.env)).all (fun x => !x.1) && (backToKw cpos (keywordEach [] X.env)).all (fun x => x.1.isSome)
      && decide ([a].length + ([] : List Keyword).length + (if ([] : List Keyword).isEmpty then 0 else 1) < 30)) = true := by rfl)
    (hline : (apos.endLine == cpos.line) = true := by rfl) (hs : starEach [a] X.env = (false, eval a X.env) :: starEach [] X.env := by rfl) (hplain : (backTo cpos (starEach [] X.env)).any (·.1) = false := by rfl) :
    QE X ca W (.Call (.Attribute o "extend" apos) [a] [] cpos) (cExt eo e) :=
  peW (pe_bm PySem.F.plainAttrs_list PySem.F.slot_list_extend PySem.F.type_list_extend mt_extend ho (pa1 ha hs) hbase hfew hline hs hplain) fun σ H Q ⟨α, st, ρ, at0, p⟩ => tG_next (rel := relV X.K) at0 .refl p fun α1 st1 d v H1 a1 _ x1 r1 p1 => by
    obtain ⟨n, xs, vs, rfl, h, rfl, h1, r, p2⟩ := lstD_ok a1.lk r1 p1
    refine ⟨.inl ⟨rfl, vs, .inl (.inl h1)⟩, tG_next (rel := relM X.K) a1 x1 p2 fun α2 st2 ys u H2 a2 x2 xb ⟨q, us, e, hq, r2⟩ p3 => ?_⟩
    subst e
    have hn := Lk.lt_of h
    have p3 : Post X.K ca (relV X.K) α st.length H (fun c d H' => W c d σ H') Q (match st2[n]? with
      | some (.lst xs) => if xs.length + ys.length ≤ sizeLine then .ok .non (st2.set n (.lst (xs ++ ys))) else .bad
      | _ => .bad) := p3
    split at p3 <;> try exact p3.elim
    rename_i xs' q1
    split at p3 <;> try exact p3.elim
    rename_i hz
    obtain ⟨vs', h2, r3⟩ := lk_lst a2.lk q1
    have L2' := a2.lk.write (o' := .lst (xs' ++ ys)) q1 h2 (fun _ z => by cases z) (fun _ _ z => by cases z) (.lst (r3.append r2))
    exact ⟨α1 n, q, vs', us, rfl, rfl, by rw [← x2.ag n hn]; exact h2, hq, by rw [← r3.length, ← r2.length]; exact hz, by rw [← x2.ag n hn]; exact p3 α2 _ _ (xb.trans L2'.2) L2'.1 .non⟩
/-- str of an int or a text -/
def strD : D → Sto → R D
  | .int i, st => if i.natAbs.log2 < 1920 then .ok (.str (toString i)) st else .bad
  | .str x, st => .ok (.str x) st
  | _, _ => .bad
theorem rule_str : ruleD X.K ca (relV X.K) strD (fun xs H Q => (∃ i, xs = [.int i] ∧ i.natAbs.log2 < 1920 ∧ Q (.str (toString i)) H) ∨ ∃ x, xs = [.str x] ∧ Q (.str x) H) := by
  intro α st α0 N0 H0 H W d v Q L xt r p
  cases r <;> try exact False.elim p
  · simp only [strD] at p
    split at p
    · rename_i h
      exact .inl ⟨_, rfl, h, p α H _ xt L (.str _)⟩
    · exact p.elim
  · exact .inr ⟨_, rfl, p α H _ xt L (.str _)⟩
theorem call_str2 : CallR X (.type "str") (fun xs H Q => (∃ i, xs = [.int i] ∧ i.natAbs.log2 < 1920 ∧ Q (.str (toString i)) H) ∨ ∃ x, xs = [.str x] ∧ Q (.str x) H) := by
  intro pins s σ H xs us Q I r h
  rcases h with h | h
  · exact call_str_int pins s σ H xs us Q I r h
  · exact SkE.call_str_str pins s σ H xs us Q I r h
theorem qe_str2 (ha : QE X ca W a ea) (hg : Gl X "str") (hm : X.mg "str" = none) (hs : starEach [a] X.env = (false, eval a X.env) :: starEach [] X.env := by rfl) : QE X ca W (.Call (.Name "str" p0) [a] [] pos) (cB1 strD ea) :=
  qt1 rule_str call_str2 ha hg hm (by decide +kernel) (by decide) (by decide) hs
/-- repr of a truth value, None, an int -/
def reprD : D → Sto → R D
  | .bl k, st => .ok (.str (if k then "True" else "False")) st
  | .non, st => .ok (.str "None") st
  | .int i, st => if i.natAbs.log2 < 1920 then .ok (.str (toString i)) st else .bad
  | _, _ => .bad
abbrev rRepr : List V → Hp → VK → Prop := fun xs H Q => (∃ k : Bool, xs = [.bl k] ∧ Q (.str (if k then "True" else "False")) H) ∨ (xs = [.non] ∧ Q (.str "None") H) ∨ ∃ i, xs = [.int i] ∧ i.natAbs.log2 < 1920 ∧ Q (.str (toString i)) H
theorem rule_repr : ruleD X.K ca (relV X.K) reprD rRepr := by
  intro α st α0 N0 H0 H W d v Q L xt r p
  cases r <;> try exact False.elim p
  · exact .inr (.inl ⟨rfl, p α H _ xt L (.str _)⟩)
  · exact .inl ⟨_, rfl, p α H _ xt L (.str _)⟩
  · simp only [reprD] at p
    split at p
    · rename_i h
      exact .inr (.inr ⟨_, rfl, h, p α H _ xt L (.str _)⟩)
    · exact p.elim
theorem call_repr3 : CallR X (.builtin "repr") rRepr := by
  intro pins s σ H xs us Q I r h
  rcases h with ⟨k, rfl, q⟩ | ⟨rfl, q⟩ | h
  · obtain ⟨u, rfl, r1⟩ := vals1 r
    cases r1
    exact PySem.P.repr_of_bool ⟨.str _, H, I.tok _, ⟨_, rfl⟩, q⟩
  · obtain ⟨u, rfl, r1⟩ := vals1 r
    cases r1
    exact PySem.P.repr_of_none ⟨.str _, H, I.tok _, ⟨_, rfl⟩, q⟩
  · exact SkE.call_repr_int pins s σ H xs us Q I r h
theorem qe_repr (ha : QE X ca W a ea) (hg : Gl X "repr") (hm : X.mg "repr" = none) (hs : starEach [a] X.env = (false, eval a X.env) :: starEach [] X.env := by rfl) : QE X ca W (.Call (.Name "repr" p0) [a] [] pos) (cB1 reprD ea) :=
  qb1 rule_repr call_repr3 ha hg hm (by decide +kernel) (by decide) (by decide) hs
end

/-! ### sorted of tuples of ints and texts -/
abbrev Ik := Int ⊕ List Nat
def ikD : D → Option Ik
  | .int i => some (.inl i)
  | .str x => some (.inr x.cps.toList)
  | _ => none
def ikL (sh : Nat → Bool) : Nat → List D → Option (List Ik)
  | _, [] => some []
  | i, .int n :: r => if sh i = true then none else (ikL sh (i + 1) r).map (.inl n :: ·)
  | i, .str x :: r => if sh i = true then (ikL sh (i + 1) r).map (.inr x.cps.toList :: ·) else none
  | _, _ :: _ => none
def tkD (sh : Nat → Bool) : D → Option (List Ik)
  | .tup (x :: r) => ikL sh 0 (x :: r)
  | _ => none
def shOf : List D → Nat → Bool
  | .tup xs :: _, i => (match xs[i]? with | some (.str _) => true | _ => false)
  | _, _ => false
def keysT (sh : Nat → Bool) : List D → Option (List (List Ik))
  | [] => some []
  | x :: r => (tkD sh x).bind fun k => (keysT sh r).map (k :: ·)
def leT (sh : Nat → Bool) (x y : D) : Bool := !lexLt itemOrd ((tkD sh y).getD []) ((tkD sh x).getD [])
def sortT (sh : Nat → Bool) (xs : List D) : List D := xs.mergeSort (leT sh)
theorem ikL_inj {sh : Nat → Bool} : ∀ {xs ys : List D} {i : Nat} {k : List Ik}, ikL sh i xs = some k → ikL sh i ys = some k → xs = ys
  | [], ys, i, k, h1, h2 => by
    simp only [ikL, Option.some.injEq] at h1
    subst h1
    cases ys with
    | nil => rfl
    | cons y r => cases y <;> simp [ikL] at h2
  | x :: r, ys, i, k, h1, h2 => by
    cases ys with
    | nil =>
      simp only [ikL, Option.some.injEq] at h2
      subst h2
      cases x <;> simp [ikL] at h1
    | cons y t =>
      cases x <;> first | (simp [ikL] at h1; done) | skip
      all_goals (cases y <;> first | (simp [ikL] at h2; done) | skip)
      · simp only [ikL] at h1 h2
        by_cases hs : sh i = true
        · rw [if_pos hs] at h1; cases h1
        · rw [if_neg hs] at h1 h2
          obtain ⟨k1, e1, e2⟩ := Option.map_eq_some_iff.mp h1
          obtain ⟨k2, e3, e4⟩ := Option.map_eq_some_iff.mp h2
          have e5 := e2.trans e4.symm
          rw [List.cons.injEq] at e5
          have e6 := Sum.inl.inj e5.1
          rw [e6, ikL_inj e1 (by rw [e3, e5.2])]
      · simp only [ikL] at h1 h2
        by_cases hs : sh i = true
        · rw [if_pos hs] at h1; cases h1
        · rw [if_neg hs] at h2; cases h2
      · simp only [ikL] at h1 h2
        by_cases hs : sh i = true
        · rw [if_pos hs] at h2; cases h2
        · rw [if_neg hs] at h1; cases h1
      · simp only [ikL] at h1 h2
        by_cases hs : sh i = true
        · rw [if_pos hs] at h1 h2
          obtain ⟨k1, e1, e2⟩ := Option.map_eq_some_iff.mp h1
          obtain ⟨k2, e3, e4⟩ := Option.map_eq_some_iff.mp h2
          have e5 := e2.trans e4.symm
          rw [List.cons.injEq] at e5
          have e6 := Sum.inr.inj e5.1
          rename_i m1 m2
          have e7 : m1 = m2 := by
            cases m1; cases m2
            simp only [Str.mk.injEq]
            exact Array.toList_inj.mp e6
          rw [e7, ikL_inj e1 (by rw [e3, e5.2])]
        · rw [if_neg hs] at h1; cases h1
theorem tkD_some {sh : Nat → Bool} {d : D} {k : List Ik} (h : tkD sh d = some k) : ∃ x r, d = .tup (x :: r) ∧ ikL sh 0 (x :: r) = some k := by
  unfold tkD at h
  split at h
  · exact ⟨_, _, rfl, h⟩
  · cases h
theorem tkD_inj {sh : Nat → Bool} {d e : D} {k : List Ik} (h : tkD sh d = some k) (h' : tkD sh e = some k) : d = e := by
  obtain ⟨x, r, rfl, h1⟩ := tkD_some h
  obtain ⟨y, t, rfl, h2⟩ := tkD_some h'
  rw [ikL_inj h1 h2]
theorem keysT_mem {sh : Nat → Bool} : ∀ {xs : List D} {ks : List (List Ik)}, keysT sh xs = some ks → ∀ x ∈ xs, ∃ k, tkD sh x = some k
  | [], _, _, x, h => by cases h
  | y :: r, ks, e, x, h => by
    unfold keysT at e
    cases e1 : tkD sh y with
    | none => rw [e1] at e; cases e
    | some k =>
      rw [e1] at e
      obtain ⟨ks', e2, _⟩ := Option.map_eq_some_iff.mp (show (keysT sh r).map _ = some ks from e)
      rcases List.mem_cons.mp h with z | z
      · exact ⟨k, by rw [z, e1]⟩
      · exact keysT_mem e2 x z
theorem keysT_of {sh : Nat → Bool} : ∀ {xs : List D}, (∀ x ∈ xs, ∃ k, tkD sh x = some k) → ∃ ks, keysT sh xs = some ks
  | [], _ => ⟨[], rfl⟩
  | x :: r, h => by
    obtain ⟨k, e⟩ := h x List.mem_cons_self
    obtain ⟨ks, e2⟩ := keysT_of (xs := r) fun y hy => h y (List.mem_cons_of_mem _ hy)
    exact ⟨k :: ks, by unfold keysT; rw [e, e2]; rfl⟩
theorem leT_trans {sh : Nat → Bool} (a b c : D) (h1 : leT sh a b = true) (h2 : leT sh b c = true) : leT sh a c = true := by
  unfold leT at *
  rw [Bool.not_eq_true'] at *
  cases e : lexLt itemOrd ((tkD sh c).getD []) ((tkD sh a).getD []) with
  | false => rfl
  | true =>
    rcases lex_negTrans (O := itemOrd) _ ((tkD sh b).getD []) _ e with z | z
    · rw [h2] at z; cases z
    · rw [h1] at z; cases z
theorem leT_total {sh : Nat → Bool} (a b : D) : (leT sh a b || leT sh b a) = true := by
  unfold leT
  cases e : lexLt itemOrd ((tkD sh b).getD []) ((tkD sh a).getD []) with
  | false => rfl
  | true =>
    cases e2 : lexLt itemOrd ((tkD sh a).getD []) ((tkD sh b).getD []) with
    | false => rfl
    | true =>
      have := lex_trans (O := itemOrd) _ _ _ e e2
      rw [lex_irrefl (O := itemOrd)] at this
      cases this
theorem leT_anti {sh : Nat → Bool} {a b : D} {k l : List Ik} (ha : tkD sh a = some k) (hb : tkD sh b = some l) (h1 : leT sh a b = true) (h2 : leT sh b a = true) : a = b := by
  unfold leT at *
  rw [ha, hb] at h1 h2
  rw [Bool.not_eq_true'] at h1 h2
  have e := lex_total (O := itemOrd) _ _ h1 h2
  have e : l = k := e
  exact tkD_inj ha (by rw [hb, e])
theorem sortT_uniq {sh : Nat → Bool} {xs ys : List D} (hk : ∀ x ∈ xs, ∃ k, tkD sh x = some k) (hp : ys.Perm xs) (hs : ys.Pairwise fun a b => leT sh a b = true) : ys = sortT sh xs := by
  have h2 : (sortT sh xs).Pairwise fun a b => leT sh a b = true := List.pairwise_mergeSort (le := leT sh) leT_trans leT_total xs
  have p2 : ys.Perm (sortT sh xs) := hp.trans (List.mergeSort_perm xs _).symm
  exact p2.eq_of_pairwise (le := fun a b => leT sh a b = true) (fun a b ha hb h3 h4 => by
    obtain ⟨k, e⟩ := hk a (hp.mem_iff.mp ha)
    obtain ⟨l, e'⟩ := hk b ((List.mergeSort_perm xs (leT sh)).mem_iff.mp hb)
    exact leT_anti e e' h3 h4) hs h2
theorem RVs.perm {K : Frag} {α : Nat → Addr} {N : Nat} {H : Hp} {vs ws : List V} (p : vs.Perm ws) : ∀ {xs : List D}, RVs K α N H xs vs → ∃ ys, RVs K α N H ys ws ∧ ys.Perm xs := by
  induction p with
  | nil => exact fun r => ⟨_, r, List.Perm.refl _⟩
  | cons v _ ih =>
    intro xs r
    cases r with
    | cons r1 r2 =>
      obtain ⟨ys, h1, h2⟩ := ih r2
      exact ⟨_, .cons r1 h1, h2.cons _⟩
  | swap v w l =>
    intro xs r
    cases r with
    | cons r1 r2 =>
      cases r2 with
      | cons r2 r3 => exact ⟨_, .cons r2 (.cons r1 r3), List.Perm.swap _ _ _⟩
  | trans _ _ ih1 ih2 =>
    intro xs r
    obtain ⟨ys, h1, h2⟩ := ih1 r
    obtain ⟨zs, h3, h4⟩ := ih2 h1
    exact ⟨zs, h3, h4.trans h2⟩
/-- a value of the machine that is such a tuple -/
def IsTk (h : Heap) (sh : Nat → Bool) (v : Value) (k : List Ik) : Prop := ∃ a o xs n f, v = .ref a ∧ h.get? a = some o ∧ o.cls = .type "tuple" ∧ o.data = .seq xs n ∧ tupItems sh 0 xs.toList = some k ∧ xs[0]? = some f
theorem IsTk.keeps {h h' : Heap} {sh : Nat → Bool} {v : Value} {k : List Ik} (p : IsTk h sh v k) (q : ∀ b o, h.get? b = some o → o.cls = .type "tuple" → h'.get? b = some o) : IsTk h' sh v k := by
  obtain ⟨a, o, xs, n, f, e, ho, hc, hd, hi, hf⟩ := p
  exact ⟨a, o, xs, n, f, e, q _ _ ho hc, hc, hd, hi, hf⟩
theorem IsTk.key {h : Heap} {sh : Nat → Bool} {v : Value} {k : List Ik} (p : IsTk h sh v k) : tupKey h sh v = some k := by
  obtain ⟨a, o, xs, n, f, rfl, ho, hc, hd, hi, hf⟩ := p
  simp only [tupKey, ho, hd]
  exact hi
theorem IsTk.of {h : Heap} {sh : Nat → Bool} {v : Value} {k : List Ik} (p : IsTk h sh v k) : ∃ f, TupOf h sh v f := by
  obtain ⟨a, o, xs, n, f, rfl, ho, hc, hd, hi, hf⟩ := p
  refine ⟨f, a, o, xs, n, rfl, ho, hc, hd, hf, fun e => ?_, fun e => ?_⟩
  all_goals
    have hl : ∃ r, xs.toList = f :: r := by
      cases hx : xs.toList with
      | nil =>
        rw [← Array.getElem?_toList, hx] at hf
        cases hf
      | cons g r =>
        rw [← Array.getElem?_toList, hx] at hf
        cases hf
        exact ⟨r, rfl⟩
    obtain ⟨r, hl⟩ := hl
    rw [hl] at hi
    cases f <;> simp [tupItems, e] at hi
    exact ⟨_, _, rfl⟩
theorem tupsOf {h : Heap} {sh : Nat → Bool} : ∀ {vs : List Value}, (∀ v ∈ vs, ∃ k, IsTk h sh v k) → ∃ fs, TupsOf h sh vs fs ∧ fs.length = vs.length
  | [], _ => ⟨[], .nil, rfl⟩
  | v :: vs, q => by
    obtain ⟨k, e⟩ := q v List.mem_cons_self
    obtain ⟨f, hf⟩ := e.of
    obtain ⟨fs, h1, h2⟩ := tupsOf (vs := vs) fun u hu => q u (List.mem_cons_of_mem _ hu)
    exact ⟨f :: fs, .cons hf h1, by rw [List.length_cons, List.length_cons, h2]⟩
section
variable {prog : Program} {w : World} {A : Around} {E : Value → Shared → Prop} {s : Shared}
theorem swo_key (k : Value → List Ik) : SrtO.Swo fun v u => lexLt itemOrd (k v) (k u) := by
  refine ⟨fun x y h => ?_, fun x y z h1 h2 => ?_⟩
  · cases e : lexLt itemOrd (k y) (k x) with
    | false => rfl
    | true =>
      have := lex_trans (O := itemOrd) _ _ _ h e
      rw [lex_irrefl (O := itemOrd)] at this
      cases this
  · cases e : lexLt itemOrd (k z) (k x) with
    | false => rfl
    | true =>
      rcases lex_negTrans (O := itemOrd) _ (k y) _ e with z | z
      · rw [h2] at z; cases z
      · rw [h1] at z; cases z
theorem tups_sortable {a : Addr} {vs : List Value} {sh : Nat → Bool} {k : Value → List Ik} (h0 : 0 < vs.length) (hp : ∀ v ∈ vs, IsTk s.heap sh v (k v)) (ha : ∀ o, s.heap.get? a = some o → o.cls ≠ .type "tuple") : SrtO.SortableO prog w A s a vs fun v u => lexLt itemOrd (k v) (k u) := by
  intro h' keep
  have hp' : ∀ v ∈ vs, IsTk h' sh v (k v) := fun v hm => (hp v hm).keeps fun b o e c => keep b o (fun z => by subst z; exact ha o e c) e
  obtain ⟨fs, h1, h2⟩ := tupsOf fun v hm => ⟨_, hp' v hm⟩
  refine ⟨tuples' true, fun Q E hq => tup_kind (s := { s with heap := h' }) (by omega) h1 hq, fun p q hm hm' => ?_⟩
  exact tup_ltAt (s := { s with heap := h' }) true A _ p.1 q.1 (k p.1) (k q.1) (hp' _ hm).key (hp' _ hm').key ⟨rfl, rfl⟩
end
/-- the rule: sorted of a list of such tuples -/
def HasK (K : Frag) (H : Hp) (sh : Nat → Bool) (x : V) (k : List Ik) : Prop := ∃ t ws, x = V.ref t ∧ SqT K H t ws ∧ ws ≠ [] ∧ ∀ us, Vals ws us → tupItems sh 0 us = some k
def rSortK (X : Cx) : List V → Hp → VK → Prop := fun vs H Q => ∃ (a : Addr) (xs : List V) (sh : Nat → Bool), vs = [V.ref a] ∧ SqL X.K H a xs ∧ (∀ x ∈ xs, ∃ k, HasK X.K H sh x k) ∧
  ∀ ys p, ys.Perm xs → ys.Pairwise (fun x y => ∀ kx ky, HasK X.K H sh x kx → HasK X.K H sh y ky → lexLt itemOrd ky kx = false) → H p = none → Q (.ref p) (upd H p (.lst ys))
theorem hasK_tk {X : Cx} {pins : List (Addr × Obj)} {σ : L2.St} {H : Hp} {s : Shared} (I : Inv X pins σ H s) {sh : Nat → Bool} {v : Value} {k : List Ik} (h : HasK X.K H sh (backV v) k) (hv : ∃ a, v = Value.ref a) : IsTk s.heap sh v k := by
  obtain ⟨t, rfl⟩ := hv
  obtain ⟨t', ws, e, ht, hne, hk⟩ := h
  cases e
  obtain ⟨ws', r2, ⟨o, ho, hc, n, hd⟩, _⟩ := I.tuple ht
  have hk' := hk ws' r2
  cases r2 with
  | nil => exact absurd rfl hne
  | cons r3 r4 => exact ⟨t, o, _, n, _, rfl, ho, hc, hd, hk', rfl⟩
theorem cr_sortK {X : Cx} : CallR X (.builtin "sorted") (rSortK X) := by
  intro pins s σ H vs us Q I r h
  obtain ⟨a, xs, sh, rfl, hs, hx, q⟩ := h
  obtain ⟨its, rv, hl, hz⟩ := I.list hs
  obtain ⟨u, rfl, ru⟩ := vals1 r
  obtain rfl : u = Value.ref a := ru
  obtain ⟨e1, e2⟩ := refs_back rv fun x m => by
    obtain ⟨_, t, _, e, _⟩ := hx x m
    exact ⟨t, e⟩
  have hp : ∀ v ∈ its, IsTk s.heap sh v ((tupKey s.heap sh v).getD []) := fun v hv => by
    have hm : backV v ∈ xs := by rw [e1]; exact List.mem_map.mpr ⟨_, hv, rfl⟩
    obtain ⟨k, hk⟩ := hx _ hm
    have h := hasK_tk I hk (e2 v hv)
    rw [h.key]
    exact h
  refine SrtO.sorted_ord (swo_key fun v => (tupKey s.heap sh v).getD []) hl.isList (by rw [← rv.length]; exact hz) (fun h2 h₁ a' ha kk => ?_) fun out hs' hb => ?_
  · refine tups_sortable (s := { s with heap := h₁ }) (k := fun v => (tupKey s.heap sh v).getD []) (by omega) (fun v hm => (hp v hm).keeps fun b o e _ => (kk b o e).2) fun o e => ?_
    have e' : some o = some (seqObj "list" its.toArray 0) := e.symm.trans ha
    cases e'
    intro c
    exact absurd (Value.type.inj c) (by decide)
  · have h3 : ∀ u ∈ out, ∃ a, u = Value.ref a := fun u hu => e2 u (hb.perm.mem_iff.mp hu)
    obtain ⟨n, hn⟩ := PyProof.Rows.sortedAll_at s.heap its out.toArray
    have hb2 : (out.map backV).Perm xs := by rw [e1]; exact hb.perm.map _
    have hs2 : (out.map backV).Pairwise fun x y => ∀ kx ky, HasK X.K H sh x kx → HasK X.K H sh y ky → lexLt itemOrd ky kx = false := by
      refine List.pairwise_map.mpr (List.Pairwise.imp_of_mem (fun {x y} hx hy h kx ky h1 h2 => ?_) hs')
      have t1 := (hasK_tk I h1 (h3 x hx)).key
      have t2 := (hasK_tk I h2 (h3 y hy)).key
      have h : lexLt itemOrd ((tupKey s.heap sh y).getD []) ((tupKey s.heap sh x).getD []) = false := h
      rw [t1, t2] at h
      exact h
    refine ⟨.ref _, upd H (s.heap.objs.size + 1) (.lst (out.map backV)), I.laid (t' := s.toks) (fun _ _ => PyProof.Rows.sortedAll_old) (Nat.le_succ _) ⟨?_, out, n, vals_back h3, hn⟩, rfl, q _ _ hb2 hs2 (I.hok.fresh (Nat.le_succ _))⟩
    rw [hb2.length_eq]
    exact hz
theorem items_of {K : Frag} {α : Nat → Addr} {N : Nat} {H : Hp} {sh : Nat → Bool} : ∀ {ds : List D} {ws : List V} {us : List Value} {i : Nat} {k : List Ik}, RVs K α N H ds ws → Vals ws us → ikL sh i ds = some k → tupItems sh i us = some k
  | [], _, _, _, _, .nil, .nil, e => e
  | .int n :: r, _, _, i, k, .cons (.int _) r1, .cons ⟨t, e⟩ r2, h => by
    subst e
    unfold ikL at h
    unfold tupItems
    split at h
    · cases h
    · rename_i hs
      rw [if_neg hs]
      obtain ⟨k', e1, e2⟩ := Option.map_eq_some_iff.mp h
      rw [items_of r1 r2 e1, ← e2]
      rfl
  | .str n :: r, _, _, i, k, .cons (.str _) r1, .cons ⟨t, e⟩ r2, h => by
    subst e
    unfold ikL at h
    unfold tupItems
    split at h
    · rename_i hs
      rw [if_pos hs]
      obtain ⟨k', e1, e2⟩ := Option.map_eq_some_iff.mp h
      rw [items_of r1 r2 e1, ← e2]
      rfl
    · cases h
  | .non :: _, _, _, _, _, _, _, h => by simp [ikL] at h
  | .bl _ :: _, _, _, _, _, _, _, h => by simp [ikL] at h
  | .tup _ :: _, _, _, _, _, _, _, h => by simp [ikL] at h
  | .con _ :: _, _, _, _, _, _, _, h => by simp [ikL] at h
  | .loc _ :: _, _, _, _, _, _, _, h => by simp [ikL] at h
theorem rvs_pairwise {K : Frag} {α : Nat → Addr} {N : Nat} {H : Hp} {R : V → V → Prop} {S : D → D → Prop} : ∀ {xs : List D} {ys : List V}, RVs K α N H xs ys → ys.Pairwise R → (∀ d v e u, RV K α N H d v → RV K α N H e u → d ∈ xs → e ∈ xs → R v u → S d e) → xs.Pairwise S
  | [], _, .nil, _, _ => .nil
  | d :: xs, _, .cons r1 r2, h, f => by
    obtain ⟨h1, h2⟩ := List.pairwise_cons.mp h
    refine List.pairwise_cons.mpr ⟨fun e he => ?_, rvs_pairwise r2 h2 fun d v e u a b m n => f d v e u a b (List.mem_cons_of_mem _ m) (List.mem_cons_of_mem _ n)⟩
    obtain ⟨i, hi⟩ := List.mem_iff_getElem?.mp he
    obtain ⟨u, g1, g2⟩ := r2.get hi
    exact f d _ e u r1 g2 List.mem_cons_self (List.mem_cons_of_mem _ he) (h1 u (List.mem_of_getElem? g1))
/-- sorted(xs): ints, or tuples of ints and texts of one shape -/
def sortedAS : List D → Sto → R (List D) := fun xs st => match intsD xs with
  | some ns => .ok ((sortI ns).map D.int) st
  | none => match keysT (shOf xs) xs with
    | some _ => .ok (sortT (shOf xs) xs) st
    | none => .bad
open Classical in
theorem rule_sortT {X : Cx} {ca : Nat → Addr} : ruleM X.K ca (relL X.K) sortedAS (fun vs H Q => rSortedI X.K vs H Q ∨ rSortK X vs H Q) := by
  intro α st α0 N0 H0 H W xs p vs Q L xt h r q
  unfold sortedAS at q
  cases e : intsD xs with
  | some ns =>
    rw [e] at q
    have ev := intsD_ok r e
    subst ev
    refine .inl ⟨p, ns, rfl, .inl (.inl h), fun ms l hp hs hl => ?_⟩
    rw [sortI_uniq hp hs]
    exact fin_new q xt L (ints_rvs _) hl
  | none =>
    rw [e] at q
    cases e2 : keysT (shOf xs) xs with
    | none => rw [e2] at q; exact q.elim
    | some ks =>
      rw [e2] at q
      have hk := keysT_mem e2
      have kd : ∀ {d : D} {v : V} {k : List Ik}, RV X.K α st.length H d v → tkD (shOf xs) d = some k → HasK X.K H (shOf xs) v k := fun {d v k} h1 h2 => by
        obtain ⟨x, t, rfl, e3⟩ := tkD_some h2
        cases h1 with
        | tup h4 h5 => exact ⟨_, _, rfl, h4, (fun z => by rw [z] at h5; cases h5), fun us hu => items_of h5 hu e3⟩
      refine .inr ⟨p, vs, shOf xs, rfl, .inl (.inl h), fun v hv => ?_, fun ys l hp hs hl => ?_⟩
      · obtain ⟨i, hi⟩ := List.mem_iff_getElem?.mp hv
        obtain ⟨d, h1, h2⟩ := r.getV hi
        obtain ⟨k, e⟩ := hk d (List.mem_of_getElem? h1)
        exact ⟨k, kd h2 e⟩
      · obtain ⟨zs, h1, h2⟩ := RVs.perm hp.symm r
        have h3 : zs.Pairwise fun a b => leT (shOf xs) a b = true := by
          refine rvs_pairwise h1 hs fun d v e u r1 r2 m1 m2 h4 => ?_
          obtain ⟨k1, t1⟩ := hk d (h2.mem_iff.mp m1)
          obtain ⟨k2, t2⟩ := hk e (h2.mem_iff.mp m2)
          have := h4 k1 k2 (kd r1 t1) (kd r2 t2)
          unfold leT
          rw [t1, t2]
          show (!lexLt itemOrd k2 k1) = true
          rw [this]; rfl
        have h4 := sortT_uniq hk h2 h3
        subst h4
        exact fin_new q xt L h1 hl
theorem cr_sortAny {X : Cx} : CallR X (.builtin "sorted") (fun vs H Q => rSortedI X.K vs H Q ∨ rSortK X vs H Q) := by
  intro pins s σ H vs us Q I r h
  rcases h with h | h
  · exact cr_sortedI pins s σ H vs us Q I r h
  · exact cr_sortK pins s σ H vs us Q I r h
section
variable {X : Cx} {ca : Nat → Addr} {W : WX} {a : Expr} {pos p0 : Pos}
theorem ql_sortedA {e : EL} (ha : QM X ca W a e) (hg : Gl X "sorted") (hm : X.mg "sorted" = none) (hs : starEach [a] X.env = (false, eval a X.env) :: starEach [] X.env := by rfl) : QL X ca W (.Call (.Name "sorted" p0) [a] [] pos) (cS1 sortedAS e) :=
  qbM rule_sortT cr_sortAny ha hg hm (by decide +kernel) (by decide) (by decide) hs
end
@[simp] theorem cApp_ap (o e : E) (ρ : Env) (st : Sto) : cApp o e ρ st = (o ρ st).bind fun x st => (lstD x st).bind fun _ st => (cArgs [e] ρ st).bind fun ys st => appD x ys st := rfl
@[simp] theorem cExt_ap (o : E) (e : EL) (ρ : Env) (st : Sto) : cExt o e ρ st = (o ρ st).bind fun x st => (lstD x st).bind fun _ st => (e ρ st).bind fun ys st => extD x ys st := rfl
end PM

set_option Elab.async false
set_option linter.all false
set_option maxRecDepth 100000
set_option maxHeartbeats 4000000
/-! PM16: constants of the module. -/
namespace PM
open PySem PySem.Spec PyProof.Rows L2
mutual
inductive CV (K : Frag) : D → Value → Prop
  | non : CV K .non .none
  | bl {b : Bool} : CV K (.bl b) (.bool b)
  | int {i : Int} {t : Tok} : CV K (.int i) (.int i t)
  | str {x : Str} {t : Tok} : CV K (.str x) (.str x t)
  | tup {a : Addr} {o : Obj} {its : Array Value} {n : Nat} {xs : List D} : K.lookup a = some o → o.cls = .type "tuple" → o.data = .seq its n → its.size ≤ sizeLine → CVs K xs its.toList → CV K (.tup xs) (.ref a)
inductive CVs (K : Frag) : List D → List Value → Prop
  | nil : CVs K [] []
  | cons {d : D} {v : Value} {ds : List D} {vs : List Value} : CV K d v → CVs K ds vs → CVs K (d :: ds) (v :: vs)
end
mutual
theorem CV.rv {K : Frag} : ∀ {d : D} {u : Value}, CV K d u → ∃ v, RelV v u ∧ ∀ α N H, RV K α N H d v
  | _, _, .non => ⟨.non, rfl, fun _ _ _ => .non⟩
  | _, _, .bl => ⟨.bl _, rfl, fun _ _ _ => .bl _⟩
  | _, _, .int => ⟨.int _, ⟨_, rfl⟩, fun _ _ _ => .int _⟩
  | _, _, .str => ⟨.str _, ⟨_, rfl⟩, fun _ _ _ => .str _⟩
  | _, _, .tup h1 h2 h3 h4 h5 => by
    obtain ⟨vs, r, q⟩ := CVs.rv h5
    exact ⟨.ref _, rfl, fun α N H => .tup (.inr ⟨_, _, _, h1, h2, h3, h4, r⟩) (q α N H)⟩
theorem CVs.rv {K : Frag} : ∀ {d : List D} {u : List Value}, CVs K d u → ∃ v, Vals v u ∧ ∀ α N H, RVs K α N H d v
  | _, _, .nil => ⟨[], .nil, fun _ _ _ => .nil⟩
  | _, _, .cons h t => by
    obtain ⟨v, r, q⟩ := CV.rv h
    obtain ⟨vs, rs, qs⟩ := CVs.rv t
    exact ⟨v :: vs, .cons r rs, fun α N H => .cons (q α N H) (qs α N H)⟩
end
def CstF (K : Frag) (mg : Str → Option Value) (x : Str) (d : D) : Prop := ∃ u, mg x = some u ∧ CV K d u
theorem qe_cst {X : Cx} {ca : Nat → Addr} {W : WX} {x : Str} {d : D} {pos : Pos} (c : CstF X.K X.mg x d) (hg : Gl X x) (hdb : (x == ("__debug__" : Str)) = false := by decide) : QE X ca W (.Name x pos) (cC d) := by
  obtain ⟨u, hm, h⟩ := c
  obtain ⟨v, r, q⟩ := h.rv
  exact qe_glob hg hm r q hdb
end PM

set_option Elab.async false
set_option linter.all false
set_option maxRecDepth 100000
set_option maxHeartbeats 1000000
/-! PM17: clean data: ints, texts, None and tuples of such; == and in are equality. -/
namespace PM
open PySem L2
mutual
def cl : D → Bool
  | .non => true | .bl _ => false | .int _ => true
  | .str x => PyData.canLay0 (.str x)
  | .tup xs => clAll xs
  | .con _ => false | .loc _ => false
def clAll : List D → Bool
  | [] => true
  | x :: xs => cl x && clAll xs
end
mutual
def depD : D → Nat
  | .tup xs => depAll xs + 1
  | .con xs => depAll xs + 1
  | .non => 1 | .bl _ => 1 | .int _ => 1 | .str _ => 1 | .loc _ => 1
def depAll : List D → Nat
  | [] => 0
  | x :: xs => max (depD x) (depAll xs)
end
mutual
theorem cl_pd : ∀ {d : D}, cl d = true → ∃ a, pd d = some a ∧ PyData.canLay0 a = true ∧ a.depth ≤ depD d
  | .non, _ => ⟨.none, rfl, rfl, by simp [PyData.depth, depD]⟩
  | .int i, _ => ⟨.int i, rfl, rfl, by simp [PyData.depth, depD]⟩
  | .str x, h => ⟨.str x, rfl, by simpa [cl] using h, by simp [PyData.depth, depD]⟩
  | .tup xs, h => by
    obtain ⟨as, e, h1, h2⟩ := clAll_pd (d := xs) (by simpa [cl] using h)
    refine ⟨.tuple as, by simp [pd, e], by simpa [PyData.canLay0] using h1, ?_⟩
    simp only [PyData.depth, depD]
    omega
  | .bl _, h => by simp [cl] at h
  | .con _, h => by simp [cl] at h
  | .loc _, h => by simp [cl] at h
theorem clAll_pd : ∀ {d : List D}, clAll d = true → ∃ a, pdAll d = some a ∧ PyData.canLayAll0 a = true ∧ PyData.depthAll a ≤ depAll d
  | [], _ => ⟨[], rfl, rfl, by simp [PyData.depthAll, depAll]⟩
  | x :: xs, h => by
    simp only [clAll, Bool.and_eq_true] at h
    obtain ⟨a, e, h1, h2⟩ := cl_pd h.1
    obtain ⟨as, es, h3, h4⟩ := clAll_pd h.2
    refine ⟨a :: as, by simp [pdAll, e, es], by simp [PyData.canLayAll0, h1, h3], ?_⟩
    simp only [PyData.depthAll, depAll]
    omega
end
open Classical
mutual
theorem cl_eqv : ∀ {d e : D} {a b : PyData}, cl d = true → cl e = true → pd d = some a → pd e = some b → PyData.eqv a b = decide (d = e)
  | .non, e, a, b, h1, h2, h3, h4 => by
    simp only [pd, Option.some.injEq] at h3
    subst h3
    cases e <;> simp [pd, cl] at h4 h2 <;> first
      | (subst h4; simp [PyData.eqv]; done)
      | (obtain ⟨_, _, rfl⟩ := h4; simp [PyData.eqv])
  | .int i, e, a, b, h1, h2, h3, h4 => by
    simp only [pd, Option.some.injEq] at h3
    subst h3
    cases e <;> simp [pd, cl] at h4 h2 <;> first
      | (subst h4; simp [PyData.eqv]; done)
      | (subst h4; by_cases q : i = ‹Int› <;> simp [PyData.eqv, q]; done)
      | (obtain ⟨_, _, rfl⟩ := h4; simp [PyData.eqv])
  | .str x, e, a, b, h1, h2, h3, h4 => by
    simp only [pd, Option.some.injEq] at h3
    subst h3
    cases e <;> simp [pd, cl] at h4 h2 <;> first
      | (subst h4; simp [PyData.eqv]; done)
      | (subst h4; by_cases q : x = ‹Str› <;> simp [PyData.eqv, q]; done)
      | (obtain ⟨_, _, rfl⟩ := h4; simp [PyData.eqv])
  | .tup xs, e, a, b, h1, h2, h3, h4 => by
    simp only [cl] at h1
    obtain ⟨as, q1, _⟩ := clAll_pd h1
    simp only [pd, q1, Option.map_some, Option.some.injEq] at h3
    subst h3
    cases e with
    | tup ys =>
      simp only [cl] at h2
      obtain ⟨bs, q2, _⟩ := clAll_pd h2
      simp only [pd, q2, Option.map_some, Option.some.injEq] at h4
      subst h4
      have := clAll_eqv h1 h2 q1 q2
      simp only [PyData.eqv, this, D.tup.injEq]
    | non => simp only [pd, Option.some.injEq] at h4; subst h4; simp [PyData.eqv]
    | int _ => simp only [pd, Option.some.injEq] at h4; subst h4; simp [PyData.eqv]
    | str _ => simp only [pd, Option.some.injEq] at h4; subst h4; simp [PyData.eqv]
    | bl _ => simp [cl] at h2
    | con _ => simp [cl] at h2
    | loc _ => simp [cl] at h2
  | .bl _, _, _, _, h, _, _, _ => by simp [cl] at h
  | .con _, _, _, _, h, _, _, _ => by simp [cl] at h
  | .loc _, _, _, _, h, _, _, _ => by simp [cl] at h
theorem clAll_eqv : ∀ {d e : List D} {a b : List PyData}, clAll d = true → clAll e = true → pdAll d = some a → pdAll e = some b → PyData.eqvAll a b = decide (d = e)
  | [], e, a, b, h1, h2, h3, h4 => by
    simp only [pdAll, Option.some.injEq] at h3
    subst h3
    cases e with
    | nil => simp only [pdAll, Option.some.injEq] at h4; subst h4; simp [PyData.eqvAll]
    | cons y ys =>
      simp only [clAll, Bool.and_eq_true] at h2
      obtain ⟨_, q1, _⟩ := cl_pd h2.1
      obtain ⟨_, q2, _⟩ := clAll_pd h2.2
      simp only [pdAll, q1, q2, Option.bind_some, Option.map_some, Option.some.injEq] at h4
      subst h4
      simp [PyData.eqvAll]
  | x :: xs, e, a, b, h1, h2, h3, h4 => by
    simp only [clAll, Bool.and_eq_true] at h1
    obtain ⟨a1, q1, _⟩ := cl_pd h1.1
    obtain ⟨as, q2, _⟩ := clAll_pd h1.2
    simp only [pdAll, q1, q2, Option.bind_some, Option.map_some, Option.some.injEq] at h3
    subst h3
    cases e with
    | nil => simp only [pdAll, Option.some.injEq] at h4; subst h4; simp [PyData.eqvAll]
    | cons y ys =>
      simp only [clAll, Bool.and_eq_true] at h2
      obtain ⟨b1, q3, _⟩ := cl_pd h2.1
      obtain ⟨bs, q4, _⟩ := clAll_pd h2.2
      simp only [pdAll, q3, q4, Option.bind_some, Option.map_some, Option.some.injEq] at h4
      subst h4
      have r1 := cl_eqv h1.1 h2.1 q1 q3
      have r2 := clAll_eqv h1.2 h2.2 q2 q4
      simp only [PyData.eqvAll, r1, r2, List.cons.injEq, Bool.decide_and]
end
theorem clAll_iff {xs : List D} : clAll xs = true ↔ ∀ x ∈ xs, cl x = true := by
  induction xs with
  | nil => simp [clAll]
  | cons x xs ih => simp [clAll, ih]
theorem clAll_map {α : Type} {f : α → D} {l : List α} (h : ∀ x, cl (f x) = true) : clAll (l.map f) = true := clAll_iff.mpr fun x hx => by
  obtain ⟨y, _, rfl⟩ := List.mem_map.mp hx
  exact h y
theorem shaped_of {d : D} {a : PyData} (h : cl d = true) (hd : depD d ≤ 64) (e : pd d = some a) : SeqAt.shaped a = true := by
  obtain ⟨a', e', h1, h2⟩ := cl_pd h
  rw [e'] at e
  cases e
  show (PyData.canLay0 a && decide (PyData.depth a ≤ 64)) = true
  rw [h1, decide_eq_true (Nat.le_trans h2 hd)]; rfl
theorem any_eqv {x : D} {a : PyData} (h : cl x = true) (e : pd x = some a) : ∀ {xs : List D} {as : List PyData}, clAll xs = true → pdAll xs = some as → (as.any fun z => PyData.eqv z a) = decide (x ∈ xs)
  | [], as, _, h2 => by simp only [pdAll, Option.some.injEq] at h2; subst h2; simp
  | y :: ys, as, h1, h2 => by
    simp only [clAll, Bool.and_eq_true] at h1
    obtain ⟨b, q1, _⟩ := cl_pd h1.1
    obtain ⟨bs, q2, _⟩ := clAll_pd h1.2
    simp only [pdAll, q1, q2, Option.bind_some, Option.map_some, Option.some.injEq] at h2
    subst h2
    rw [List.any_cons, cl_eqv h1.1 h q1 e, any_eqv h e h1.2 q2]
    by_cases q : x = y
    · simp [q]
    · simp [q, Ne.symm q]
theorem eqF_cl {x y : D} (h1 : cl x = true) (h2 : cl y = true) (f1 : flatD x = true) (f2 : flatD y = true) : eqF x y = decide (x = y) := by
  cases x <;> simp [cl, flatD] at h1 f1 <;> cases y <;> simp [cl, flatD] at h2 f2 <;> simp [eqF]
  all_goals (rename_i a b; by_cases q : a = b <;> simp [q])
theorem inSeq_cl {x : D} {xs : List D} (h : cl x = true) (hd : depD x ≤ 64) (hs : clAll xs = true) : inSeq x xs = some (decide (x ∈ xs)) := by
  unfold inSeq
  split
  · rename_i hf
    simp only [Bool.and_eq_true, List.all_eq_true] at hf
    congr 1
    have e : ∀ y ∈ xs, eqF y x = decide (y = x) := fun y hy => eqF_cl (clAll_iff.mp hs y hy) h (hf.2 y hy) hf.1
    rw [Bool.eq_iff_iff, List.any_eq_true, decide_eq_true_iff]
    constructor
    · rintro ⟨y, hy, q⟩
      rw [e y hy, decide_eq_true_iff] at q
      exact q ▸ hy
    · exact fun hx => ⟨x, hx, by rw [e x hx]; simp⟩
  · obtain ⟨a, e, _⟩ := cl_pd h
    obtain ⟨as, e2, h2, _⟩ := clAll_pd hs
    rw [e, e2]
    dsimp only
    rw [if_pos ⟨shaped_of h hd e, h2⟩, any_eqv h e hs e2]
theorem eqO_cl {x y : D} {st : Sto} (h1 : cl x = true) (h2 : cl y = true) (d1 : depD x ≤ 64) (d2 : depD y ≤ 64) : eqO x y st = some (decide (x = y)) := by
  have ps : ∀ {d : D}, cl d = true → pdS st d = pd d := fun {d} h => by
    cases d <;> first | rfl | (simp [cl] at h)
  unfold eqO
  split
  · rename_i hs
    congr 1
    cases x <;> simp [cl] at h1 <;> cases y <;> simp [cl] at h2 <;> simp [scalD] at hs <;> simp [eqS]
  · obtain ⟨a, e1, _⟩ := cl_pd h1
    obtain ⟨b, e2, _⟩ := cl_pd h2
    rw [ps h1, ps h2, e1, e2]
    dsimp only
    rw [if_pos ⟨shaped_of h1 d1 e1, shaped_of h2 d2 e2⟩, cl_eqv h1 h2 e1 e2]
theorem eqD_cl {x y : D} {st : Sto} (h1 : cl x = true) (h2 : cl y = true) (d1 : depD x ≤ 64) (d2 : depD y ≤ 64) : eqD x y st = .ok (.bl (decide (x = y))) st := by
  unfold eqD; rw [eqO_cl h1 h2 d1 d2]
theorem neD_cl {x y : D} {st : Sto} (h1 : cl x = true) (h2 : cl y = true) (d1 : depD x ≤ 64) (d2 : depD y ≤ 64) : neD x y st = .ok (.bl (!decide (x = y))) st := by
  unfold neD; rw [eqO_cl h1 h2 d1 d2]
theorem inD_lst {x : D} {xs : List D} {n : Nat} {st : Sto} (hn : st[n]? = some (.lst xs)) (h : cl x = true) (hd : depD x ≤ 64) (hs : clAll xs = true) : inD x (.loc n) st = .ok (.bl (decide (x ∈ xs))) st := by
  simp only [inD, inO, hn, inSeq_cl h hd hs]
theorem notInD_lst {x : D} {xs : List D} {n : Nat} {st : Sto} (hn : st[n]? = some (.lst xs)) (h : cl x = true) (hd : depD x ≤ 64) (hs : clAll xs = true) : notInD x (.loc n) st = .ok (.bl (!decide (x ∈ xs))) st := by
  simp only [notInD, inO, hn, inSeq_cl h hd hs]
theorem inD_tup {x : D} {xs : List D} {st : Sto} (h : cl x = true) (hd : depD x ≤ 64) (hs : clAll xs = true) : inD x (.tup xs) st = .ok (.bl (decide (x ∈ xs))) st := by
  simp only [inD, inO, inSeq_cl h hd hs]
theorem notInD_tup {x : D} {xs : List D} {st : Sto} (h : cl x = true) (hd : depD x ≤ 64) (hs : clAll xs = true) : notInD x (.tup xs) st = .ok (.bl (!decide (x ∈ xs))) st := by
  simp only [notInD, inO, inSeq_cl h hd hs]
end PM

set_option Elab.async false
set_option linter.all false
set_option maxRecDepth 100000
set_option maxHeartbeats 1000000
/-! PM18: written texts. -/
namespace PM
open PySem L2
theorem map_inj {α β : Type} {f : α → β} (hf : ∀ x y, f x = f y → x = y) : ∀ {l m : List α}, l.map f = m.map f → l = m
  | [], [], _ => rfl
  | [], _ :: _, h => by cases h
  | _ :: _, [], h => by cases h
  | x :: l, y :: m, h => by
    rw [List.map_cons, List.map_cons, List.cons.injEq] at h
    rw [hf x y h.1, map_inj hf h.2]
theorem toNat_inj (x y : Char) (h : x.toNat = y.toNat) : x = y := by
  apply Char.ext
  exact UInt32.toNat_inj.mp h
@[simp] theorem ofStr_inj {a b : String} : (Str.ofString a = Str.ofString b) ↔ a = b := by
  constructor
  · intro h
    rw [Str.ofString_eq_toList, Str.ofString_eq_toList] at h
    have h1 : (a.toList.map Char.toNat) = (b.toList.map Char.toNat) := by
      have := congrArg (fun x : Str => x.cps.toList) h
      simpa using this
    exact String.toList_inj.mp (map_inj toNat_inj h1)
  · intro h; rw [h]
@[simp] theorem getD_tup (xs : List D) (y : D) (st : Sto) : getD (.tup xs) y st = atD xs y st := rfl
theorem atD_nat {xs : List D} {i : Nat} {x : D} (st : Sto) (h : xs[i]? = some x) : atD xs (.int (i : Int)) st = .ok x st := by
  show (match atI xs (i : Int) with | some d => R.ok d st | none => R.bad) = _
  rw [atI_nat h]
@[simp] theorem atD_0 (x0 : D) (r : List D) (st : Sto) : atD (x0 :: r) (.int 0) st = .ok x0 st := atD_nat (i := 0) st rfl
@[simp] theorem atD_1 (x0 x1 : D) (r : List D) (st : Sto) : atD (x0 :: x1 :: r) (.int 1) st = .ok x1 st := atD_nat (i := 1) st rfl
@[simp] theorem atD_2 (x0 x1 x2 : D) (r : List D) (st : Sto) : atD (x0 :: x1 :: x2 :: r) (.int 2) st = .ok x2 st := atD_nat (i := 2) st rfl
@[simp] theorem atD_3 (x0 x1 x2 x3 : D) (r : List D) (st : Sto) : atD (x0 :: x1 :: x2 :: x3 :: r) (.int 3) st = .ok x3 st := atD_nat (i := 3) st rfl
@[simp] theorem atD_4 (x0 x1 x2 x3 x4 : D) (r : List D) (st : Sto) : atD (x0 :: x1 :: x2 :: x3 :: x4 :: r) (.int 4) st = .ok x4 st := atD_nat (i := 4) st rfl
@[simp] theorem atD_5 (x0 x1 x2 x3 x4 x5 : D) (r : List D) (st : Sto) : atD (x0 :: x1 :: x2 :: x3 :: x4 :: x5 :: r) (.int 5) st = .ok x5 st := atD_nat (i := 5) st rfl
@[simp] theorem atD_6 (x0 x1 x2 x3 x4 x5 x6 : D) (r : List D) (st : Sto) : atD (x0 :: x1 :: x2 :: x3 :: x4 :: x5 :: x6 :: r) (.int 6) st = .ok x6 st := atD_nat (i := 6) st rfl
@[simp] theorem atD_7 (x0 x1 x2 x3 x4 x5 x6 x7 : D) (r : List D) (st : Sto) : atD (x0 :: x1 :: x2 :: x3 :: x4 :: x5 :: x6 :: x7 :: r) (.int 7) st = .ok x7 st := atD_nat (i := 7) st rfl
@[simp] theorem atD_8 (x0 x1 x2 x3 x4 x5 x6 x7 x8 : D) (r : List D) (st : Sto) : atD (x0 :: x1 :: x2 :: x3 :: x4 :: x5 :: x6 :: x7 :: x8 :: r) (.int 8) st = .ok x8 st := atD_nat (i := 8) st rfl
@[simp] theorem atD_9 (x0 x1 x2 x3 x4 x5 x6 x7 x8 x9 : D) (r : List D) (st : Sto) : atD (x0 :: x1 :: x2 :: x3 :: x4 :: x5 :: x6 :: x7 :: x8 :: x9 :: r) (.int 9) st = .ok x9 st := atD_nat (i := 9) st rfl
/-! loops, one turn after another -/
theorem forGo_cons {chk : Sto → Prop} {g : G} {body : S} {x : D} {r : List D} {ρ ρ1 ρ2 : PM.Env} {st st2 : Sto} (h : chk st) (hg : g x ρ = some ρ1) (hb : body ρ1 st = .nx ρ2 st2 ∨ body ρ1 st = .ct ρ2 st2) : forGo chk g body (x :: r) ρ st = forGo chk g body r ρ2 st2 := by
  rw [forGo, if_pos h, hg]
  dsimp only
  rcases hb with hb | hb <;> rw [hb]
theorem forGo_rt {chk : Sto → Prop} {g : G} {body : S} {x : D} {r : List D} {ρ ρ1 : PM.Env} {st st2 : Sto} {d : D} (h : chk st) (hg : g x ρ = some ρ1) (hb : body ρ1 st = .rt d st2) : forGo chk g body (x :: r) ρ st = .rt d st2 := by
  rw [forGo, if_pos h, hg]
  dsimp only
  rw [hb]
theorem forGo_nil {chk : Sto → Prop} {g : G} {body : S} {ρ : PM.Env} {st : Sto} (h : chk st) : forGo chk g body [] ρ st = .nx ρ st := by rw [forGo, if_pos h]
theorem compGo_cons {β : Type} {chk : Sto → Prop} {t : CT} {tt : ET} {te : PM.Env → Sto → R β} {ρ ρ1 : PM.Env} {x : D} {r : List D} {st st2 : Sto} {y : β} (h : chk st) (hg : t.set x ρ = some ρ1) (ht : tt ρ1 st = .ok true st) (he : te ρ1 st = .ok y st2) : compGo chk t tt te ρ (x :: r) st = (compGo chk t tt te ρ r st2).bind fun ys st => .ok (y :: ys) st := by
  rw [compGo, if_pos h, hg]
  dsimp only
  simp [ht, he]
theorem compGo_nil {β : Type} {chk : Sto → Prop} {t : CT} {tt : ET} {te : PM.Env → Sto → R β} {ρ : PM.Env} {st : Sto} (h : chk st) : compGo chk t tt te ρ [] st = .ok [] st := by rw [compGo, if_pos h]
theorem rngD_zero (lo : Int) : rngD lo 0 = [] := rfl
theorem rngD_succ (lo : Int) (n : Nat) : rngD lo (n + 1) = .int lo :: rngD (lo + 1) n := by
  simp only [rngD, List.range_succ_eq_map, List.map_cons, List.map_map]
  congr 1
  · simp
  · apply List.map_congr_left
    intro i _
    simp
    omega
theorem rngD_len (lo : Int) (n : Nat) : (rngD lo n).length = n := by simp [rngD]
theorem rngD_nat (n : Nat) : rngD 0 n = (List.range n).map fun (i : Nat) => D.int (i : Int) := by simp [rngD]
theorem rng1_nat {n : Nat} {st : Sto} (h : n ≤ 1000000000) : rng1D (.int (n : Int)) st = .ok ⟨fun _ => True, rngD 0 n⟩ st := by
  unfold rng1D
  dsimp only
  rw [if_pos ⟨by omega, by omega⟩]
  simp
theorem cRng1_ok {e : E} {ρ : PM.Env} {st st' : Sto} {n : Nat} (h : e ρ st = .ok (.int (n : Int)) st') (hn : n ≤ 1000000000) : cRng1 e ρ st = .ok ⟨fun _ => True, rngD 0 n⟩ st' := by
  rw [cRng1_ap, h, R.bind_ok, rng1_nat hn]
theorem cItr_tup {e : E} {ρ : PM.Env} {st st' : Sto} {xs : List D} (h : e ρ st = .ok (.tup xs) st') : cItr e ρ st = .ok ⟨fun _ => True, xs⟩ st' := by
  rw [cItr_ap, h]; rfl
@[simp] theorem intD_bl (b : Bool) (st : Sto) : intD (.bl b) st = .ok (.int (if b then 1 else 0)) st := rfl
@[simp] theorem truD_bl (b : Bool) (st : Sto) : truD (.bl b) st = .ok b st := rfl
@[simp] theorem isi_tuple_tup (xs : List D) (st : Sto) : isiD .tuple (.tup xs) st = .ok (.bl true) st := rfl
@[simp] theorem isi_tuple_str (x : Str) (st : Sto) : isiD .tuple (.str x) st = .ok (.bl false) st := rfl
@[simp] theorem isi_tuple_int (i : Int) (st : Sto) : isiD .tuple (.int i) st = .ok (.bl false) st := rfl
@[simp] theorem isi_tuple_bl (b : Bool) (st : Sto) : isiD .tuple (.bl b) st = .ok (.bl false) st := rfl
@[simp] theorem isi_tuple_non  (st : Sto) : isiD .tuple .non st = .ok (.bl false) st := rfl
@[simp] theorem isi_str_tup (xs : List D) (st : Sto) : isiD .str (.tup xs) st = .ok (.bl false) st := rfl
@[simp] theorem isi_str_str (x : Str) (st : Sto) : isiD .str (.str x) st = .ok (.bl true) st := rfl
@[simp] theorem isi_str_int (i : Int) (st : Sto) : isiD .str (.int i) st = .ok (.bl false) st := rfl
@[simp] theorem isi_str_bl (b : Bool) (st : Sto) : isiD .str (.bl b) st = .ok (.bl false) st := rfl
@[simp] theorem isi_str_non  (st : Sto) : isiD .str .non st = .ok (.bl false) st := rfl
@[simp] theorem isi_int_tup (xs : List D) (st : Sto) : isiD .int (.tup xs) st = .ok (.bl false) st := rfl
@[simp] theorem isi_int_str (x : Str) (st : Sto) : isiD .int (.str x) st = .ok (.bl false) st := rfl
@[simp] theorem isi_int_int (i : Int) (st : Sto) : isiD .int (.int i) st = .ok (.bl true) st := rfl
@[simp] theorem isi_int_bl (b : Bool) (st : Sto) : isiD .int (.bl b) st = .ok (.bl true) st := rfl
@[simp] theorem isi_int_non  (st : Sto) : isiD .int .non st = .ok (.bl false) st := rfl
@[simp] theorem isi_bool_tup (xs : List D) (st : Sto) : isiD .bool (.tup xs) st = .ok (.bl false) st := rfl
@[simp] theorem isi_bool_str (x : Str) (st : Sto) : isiD .bool (.str x) st = .ok (.bl false) st := rfl
@[simp] theorem isi_bool_int (i : Int) (st : Sto) : isiD .bool (.int i) st = .ok (.bl false) st := rfl
@[simp] theorem isi_bool_bl (b : Bool) (st : Sto) : isiD .bool (.bl b) st = .ok (.bl true) st := rfl
@[simp] theorem isi_bool_non  (st : Sto) : isiD .bool .non st = .ok (.bl false) st := rfl
theorem app_ok {o e : E} {ρ : PM.Env} {st st1 st2 : Sto} {n : Nat} {xs : List D} {y : D} (h1 : o ρ st = .ok (.loc n) st) (h2 : st[n]? = some (.lst xs)) (h3 : e ρ st = .ok y st1) (h4 : appD (.loc n) [y] st1 = .ok .non st2) : cApp o e ρ st = .ok .non st2 := by
  rw [cApp_ap, h1, R.bind_ok]
  simp only [lstD, h2, R.bind_ok, cArgs_cons, cArgs_nil, h3, h4]
theorem cAnd_true {a b : E} {ρ : PM.Env} {st st1 : Sto} {r : R D} (h : a ρ st = .ok (.bl true) st1) (q : b ρ st1 = r) : cAnd a b ρ st = r := by rw [cAnd_ap, h]; exact q
theorem cAnd_false {a b : E} {ρ : PM.Env} {st st1 : Sto} (h : a ρ st = .ok (.bl false) st1) : cAnd a b ρ st = .ok (.bl false) st1 := by rw [cAnd_ap, h]; rfl
theorem cOr_false {a b : E} {ρ : PM.Env} {st st1 : Sto} {r : R D} (h : a ρ st = .ok (.bl false) st1) (q : b ρ st1 = r) : cOr a b ρ st = r := by rw [cOr_ap, h]; exact q
theorem cOr_true {a b : E} {ρ : PM.Env} {st st1 : Sto} (h : a ρ st = .ok (.bl true) st1) : cOr a b ρ st = .ok (.bl true) st1 := by rw [cOr_ap, h]; rfl
theorem cInL_ok {neg k : Bool} {a : E} {b : EL} {ρ : PM.Env} {st st1 st2 : Sto} {x : D} {ys : List D} (ha : a ρ st = .ok x st1) (hb : b ρ st1 = .ok ys st2) (h : inSeq x ys = some k) : cInL neg a b ρ st = .ok (.bl (neg ^^ k)) st2 := by
  rw [cInL_ap, ha, R.bind_ok, hb, R.bind_ok, h]
/-! statements, one after another -/
theorem sSeq_nx {a b : S} {ρ ρ' : PM.Env} {st st' : Sto} {f : F} (h : a ρ st = .nx ρ' st') (q : b ρ' st' = f) : sSeq a b ρ st = f := by
  rw [sSeq_ap, h]; exact q
theorem sSeq_rt {a b : S} {ρ : PM.Env} {st st' : Sto} {d : D} (h : a ρ st = .rt d st') : sSeq a b ρ st = .rt d st' := by
  rw [sSeq_ap, h]
theorem sSeq_exc {a b : S} {ρ ρ' : PM.Env} {st st' : Sto} {c : Nat} {fs : List (Str × D)} (h : a ρ st = .exc c fs ρ' st') : sSeq a b ρ st = .exc c fs ρ' st' := by
  rw [sSeq_ap, h]
theorem sIf_true {t : ET} {a b : S} {ρ : PM.Env} {st st' : Sto} {f : F} (h : t ρ st = .ok true st') (q : a ρ st' = f) : sIf t a b ρ st = f := by
  rw [sIf_ap, h]; exact q
theorem sIf_false {t : ET} {a b : S} {ρ : PM.Env} {st st' : Sto} {f : F} (h : t ρ st = .ok false st') (q : b ρ st' = f) : sIf t a b ρ st = f := by
  rw [sIf_ap, h]; exact q
theorem sSet_ok {i : Nat} {e : E} {ρ ρ' : PM.Env} {st st' : Sto} {d : D} (h : e ρ st = .ok d st') (q : ρ.set i (some d) = ρ') : sSet i e ρ st = .nx ρ' st' := by
  rw [sSet_ap, h]; subst q; rfl
theorem sExp_ok {e : E} {ρ : PM.Env} {st st' : Sto} {d : D} (h : e ρ st = .ok d st') : sExp e ρ st = .nx ρ st' := by
  rw [sExp_ap, h]; rfl
theorem sRet_ok {e : E} {ρ : PM.Env} {st st' : Sto} {d : D} (h : e ρ st = .ok d st') : sRet e ρ st = .rt d st' := by
  rw [sRet_ap, h]; rfl
theorem sFor_ok {e : EI} {g : G} {body : S} {ρ : PM.Env} {st st' : Sto} {b : Itb} {f : F} (h : e ρ st = .ok b st') (q : forGo b.chk g body b.xs ρ st' = f) : sFor e g body ρ st = f := by
  rw [sFor_ap, h]; exact q
example (st : Sto) : eqD (.str "count") (.str "value") st = .ok (.bl false) st := by simp
example (st : Sto) : eqD (.str "count") (.str "count") st = .ok (.bl true) st := by simp
end PM

set_option Elab.async false
set_option linter.all false
set_option maxRecDepth 100000
set_option maxHeartbeats 4000000
/-! the mirrors of k95 (printed by gen.py) -/
namespace PMl
open PySem PM
def k_KINDS : D := (.tup [(.str "value"), (.str "field"), (.str "things")])
noncomputable def b_meet : S := (sRet (cS1 anyS (cComp (cItr (cVar 0)) (.one 2) tYesD (cOp2 inD (cVar 2) (cVar 1)) [2])))
noncomputable def m_meet : M := mDef 3 b_meet
noncomputable def b_ordered : S := (sSeq (sSet 1 (cNew (cLst [])))
  (sSeq (sFor (cItr (cC k_KINDS)) (gN 2) (sExp (cExt (cVar 1) (cS1 sortedAS (cComp (cItr (cVar 0)) (.one 3) (cTst (cOp2 eqD (cOp2 getD (cVar 3) (cC (.int 0))) (cVar 2))) (cVar 3) [3])))))
  (sRet (cS1 tupS (cSeq (cVar 1))))))
noncomputable def m_ordered : M := mDef 4 b_ordered
noncomputable def b_Touch_told : S := (sSeq (sSet 1 (cS1 tupS (cS1 sortedAS (cLs (cB1 (fldOf [0] "_knobs") (cVar 0))))))
  (sRet (cTup [(cC (.str "touches")), (cCall m_ordered [(cB1 (fldOf [0] "_looks") (cVar 0))]), (cCall m_ordered [(cB1 (fldOf [0] "_changes") (cVar 0))]), (cB1 (fldOf [0] "_draws") (cVar 0)), (cB1 (fldOf [0] "_tells") (cVar 0)), (cVar 1)])))
noncomputable def m_Touch_told : M := mDef 2 b_Touch_told
noncomputable def b_Touch_look : S := (sIf (cTst (cOp2 notInD (cVar 1) (cB1 (fldOf [0] "_looks") (cVar 0)))) (sExp (cApp (cB1 (fldOf [0] "_looks") (cVar 0)) (cVar 1))) sNext)
noncomputable def m_Touch_look : M := mDef 2 b_Touch_look
noncomputable def b_Touch__field : S := (sRet (cTup [(cC (.str "field")), (cOp2 getD (cB1 (fldOf [0] "_eaches") (cVar 0)) (cVar 1)), (cVar 2)]))
noncomputable def m_Touch__field : M := mDef 3 b_Touch__field
noncomputable def b_Touch_expression (m : Nat → M) : S := (sSeq (sSet 2 (cOp2 getD (cVar 1) (cC (.int 0))))
  (sIf (cTst (cOp2 eqD (cVar 2) (cC (.str "value")))) (sExp (cMeth 0 "look" m_Touch_look (cVar 0) [(cVar 1)])) (sIf (cTst (cOp2 eqD (cVar 2) (cC (.str "field")))) (sExp (cMeth 0 "look" m_Touch_look (cVar 0) [(cMeth 0 "_field" m_Touch__field (cVar 0) [(cOp2 getD (cVar 1) (cC (.int 1))), (cOp2 getD (cVar 1) (cC (.int 2)))])])) (sIf (cTst (cOp2 eqD (cVar 2) (cC (.str "count")))) (sExp (cMeth 0 "look" m_Touch_look (cVar 0) [(cTup [(cC (.str "things")), (cOp2 getD (cVar 1) (cC (.int 1)))])])) (sIf (cTst (cOp2 eqD (cVar 2) (cC (.str "past")))) (sSeq (sExp (cMeth 0 "look" m_Touch_look (cVar 0) [(cMeth 0 "_field" m_Touch__field (cVar 0) [(cOp2 getD (cVar 1) (cC (.int 1))), (cOp2 getD (cVar 1) (cC (.int 2)))])]))
  (sExp (cMeth 0 "expression" (m 0) (cVar 0) [(cOp2 getD (cVar 1) (cC (.int 3)))]))) (sIf (cTst (cOp2 eqD (cVar 2) (cC (.str "op")))) (sSeq (sExp (cMeth 0 "expression" (m 0) (cVar 0) [(cOp2 getD (cVar 1) (cC (.int 2)))]))
  (sExp (cMeth 0 "expression" (m 0) (cVar 0) [(cOp2 getD (cVar 1) (cC (.int 3)))]))) (sIf (cTst (cOp2 inD (cVar 2) (cTup [(cC (.str "draw")), (cC (.str "move")), (cC (.str "not"))]))) (sExp (cMeth 0 "_one" (m 1) (cVar 0) [(cVar 1)])) sNext)))))))
noncomputable def b_Touch__one (m : Nat → M) : S := (sSeq (sIf (cTst (cOp2 eqD (cOp2 getD (cVar 1) (cC (.int 0))) (cC (.str "draw")))) (sFldD [0] "_draws" (cVar 0) (cC (.bl true))) sNext)
  (sSeq (sIf (tAndD (cTst (cOp2 eqD (cOp2 getD (cVar 1) (cC (.int 0))) (cC (.str "move")))) (cTst (cOp2 notInD (cOp2 getD (cVar 1) (cC (.int 2))) (cB1 (fldOf [0] "_knobs") (cVar 0))))) (sExp (cApp (cB1 (fldOf [0] "_knobs") (cVar 0)) (cOp2 getD (cVar 1) (cC (.int 2))))) sNext)
  (sExp (cMeth 0 "expression" (m 0) (cVar 0) [(cOp2 getD (cVar 1) (cC (.int 1)))]))))
noncomputable def r_Touch_expression : Nat → Nat → M
  | 0, _ => fun _ _ => .bad
  | n + 1, j => match j with
    | 0 => mDef 3 (b_Touch_expression (r_Touch_expression n))
    | 1 => mDef 2 (b_Touch__one (r_Touch_expression n))
    | _ => fun _ _ => .bad
noncomputable abbrev m_Touch_expression (n : Nat) : M := r_Touch_expression n 0
noncomputable abbrev m_Touch__one (n : Nat) : M := r_Touch_expression n 1
noncomputable def b_Touch_change : S := (sIf (cTst (cOp2 notInD (cVar 1) (cB1 (fldOf [0] "_changes") (cVar 0)))) (sExp (cApp (cB1 (fldOf [0] "_changes") (cVar 0)) (cVar 1))) sNext)
noncomputable def m_Touch_change : M := mDef 2 b_Touch_change
noncomputable def b_Touch__make : S := (sSeq (sExp (cMeth 0 "look" m_Touch_look (cVar 0) [(cTup [(cC (.str "things")), (cVar 1)])]))
  (sSeq (sExp (cMeth 0 "change" m_Touch_change (cVar 0) [(cTup [(cC (.str "things")), (cVar 1)])]))
  (sSeq (sFor (cRng1 (cB1 lenD (cOp2 getD (cOp2 getD (cOp2 getD (cB1 (fldOf [0] "_world") (cVar 0)) (cC (.int 5))) (cVar 1)) (cC (.int 3))))) (gN 3) (sExp (cMeth 0 "change" m_Touch_change (cVar 0) [(cTup [(cC (.str "field")), (cVar 1), (cVar 3)])])))
  (sFor (cItr (cVar 2)) (gN 4) (sExp (cMeth 0 "expression" (m_Touch_expression 30) (cVar 0) [(cVar 4)]))))))
noncomputable def m_Touch__make : M := mDef 5 b_Touch__make
noncomputable def b_Touch_body (m : Nat → M) : S := (sFor (cItr (cVar 1)) (gN 2) (sExp (cMeth 0 "_statement" (m 1) (cVar 0) [(cVar 2)])))
noncomputable def b_Touch__statement (m : Nat → M) : S := (sSeq (sSet 2 (cOp2 getD (cVar 1) (cC (.int 0))))
  (sIf (cTst (cOp2 eqD (cVar 2) (cC (.str "set")))) (sSeq (sSet 3 (cOp2 getD (cVar 1) (cC (.int 1))))
  (sSeq (sIf (cTst (cOp2 eqD (cOp2 getD (cVar 3) (cC (.int 0))) (cC (.str "field")))) (sSet 3 (cMeth 0 "_field" m_Touch__field (cVar 0) [(cOp2 getD (cVar 3) (cC (.int 1))), (cOp2 getD (cVar 3) (cC (.int 2)))])) sNext)
  (sSeq (sExp (cMeth 0 "change" m_Touch_change (cVar 0) [(cVar 3)]))
  (sExp (cMeth 0 "expression" (m_Touch_expression 30) (cVar 0) [(cOp2 getD (cVar 1) (cC (.int 2)))]))))) (sIf (cTst (cOp2 eqD (cVar 2) (cC (.str "make")))) (sExp (cMeth 0 "_make" m_Touch__make (cVar 0) [(cOp2 getD (cVar 1) (cC (.int 1))), (cOp2 getD (cVar 1) (cC (.int 2)))])) (sIf (cTst (cOp2 eqD (cVar 2) (cC (.str "drop")))) (sExp (cMeth 0 "change" m_Touch_change (cVar 0) [(cTup [(cC (.str "things")), (cOp2 getD (cB1 (fldOf [0] "_eaches") (cVar 0)) (cOp2 getD (cVar 1) (cC (.int 1))))])])) (sIf (cTst (cOp2 eqD (cVar 2) (cC (.str "tell")))) (sSeq (sFldD [0] "_tells" (cVar 0) (cC (.bl true)))
  (sExp (cMeth 0 "expression" (m_Touch_expression 30) (cVar 0) [(cOp2 getD (cVar 1) (cC (.int 2)))]))) (sSeq (sExp (cMeth 0 "expression" (m_Touch_expression 30) (cVar 0) [(cOp2 getD (cVar 1) (cC (.int 1)))]))
  (sSeq (sExp (cMeth 0 "body" (m 0) (cVar 0) [(cOp2 getD (cVar 1) (cC (.int 2)))]))
  (sExp (cMeth 0 "body" (m 0) (cVar 0) [(cOp2 getD (cVar 1) (cC (.int 3)))])))))))))
noncomputable def r_Touch_body : Nat → Nat → M
  | 0, _ => fun _ _ => .bad
  | n + 1, j => match j with
    | 0 => mDef 3 (b_Touch_body (r_Touch_body n))
    | 1 => mDef 4 (b_Touch__statement (r_Touch_body n))
    | _ => fun _ _ => .bad
noncomputable abbrev m_Touch_body (n : Nat) : M := r_Touch_body n 0
noncomputable abbrev m_Touch__statement (n : Nat) : M := r_Touch_body n 1
noncomputable def b_Touch_init : S := (sSeq (sFldD [0] "_world" (cVar 0) (cVar 1))
  (sSeq (sFldD [0] "_eaches" (cVar 0) (cVar 2))
  (sSeq (sFldD [0] "_looks" (cVar 0) (cNew (cLst [])))
  (sSeq (sFldD [0] "_changes" (cVar 0) (cNew (cLst [])))
  (sSeq (sFldD [0] "_draws" (cVar 0) (cC (.bl false)))
  (sSeq (sFldD [0] "_tells" (cVar 0) (cC (.bl false)))
  (sFldD [0] "_knobs" (cVar 0) (cNew (cLst [])))))))))
noncomputable def m_Touch_init : M := mDef 3 b_Touch_init
noncomputable def b_touches : S := (sSeq (sAsg (cOp2 getD (cOp2 getD (cVar 0) (cC (.int 8))) (cVar 1)) (gT 5 (gsCons (gN 2) (gsCons (gN 2) (gsCons (gN 3) (gsCons (gN 4) (gsCons (gN 5) gsNil)))))))
  (sSeq (sSet 6 (cMake 0 m_Touch_init [(cVar 0), (cVar 3)]))
  (sSeq (sFor (cItr (cVar 3)) (gN 7) (sExp (cMeth 0 "look" m_Touch_look (cVar 6) [(cTup [(cC (.str "things")), (cVar 7)])])))
  (sSeq (sIf (cTst (cOp2 notND (cVar 4) (cC .non))) (sExp (cMeth 0 "expression" (m_Touch_expression 30) (cVar 6) [(cVar 4)])) sNext)
  (sSeq (sExp (cMeth 0 "body" (m_Touch_body 60) (cVar 6) [(cVar 5)]))
  (sRet (cMeth 0 "told" m_Touch_told (cVar 6) [])))))))
noncomputable def m_touches : M := mDef 8 b_touches
noncomputable def b_apart : S := (sSeq (sAsg (cCall m_touches [(cVar 0), (cVar 1)]) (gT 6 (gsCons (gN 3) (gsCons (gN 4) (gsCons (gN 5) (gsCons (gN 6) (gsCons (gN 7) (gsCons (gN 8) gsNil))))))))
  (sSeq (sAsg (cCall m_touches [(cVar 0), (cVar 2)]) (gT 6 (gsCons (gN 3) (gsCons (gN 9) (gsCons (gN 10) (gsCons (gN 11) (gsCons (gN 12) (gsCons (gN 13) gsNil))))))))
  (sSeq (sIf (tOrD (cTru (cCall m_meet [(cVar 5), (cOp2 addD (cVar 9) (cVar 10))])) (cTru (cCall m_meet [(cVar 10), (cVar 4)]))) (sRet (cC (.bl false))) sNext)
  (sRet (cNot (cOr (cAnd (cVar 6) (cVar 11)) (cOr (cAnd (cVar 7) (cVar 12)) (cAnd (cOp2 neD (cVar 8) (cTup [])) (cOp2 neD (cVar 13) (cTup []))))))))))
noncomputable def m_apart : M := mDef 14 b_apart
noncomputable def b__law_sorted : S := (sSeq (sSet 1 (cNew (cLst [])))
  (sSeq (sFor (cItl (cLst [(cC (.str "value")), (cC (.str "field")), (cC (.str "things"))])) (gN 2) (sFor (cItl (cS1 sortedAS (cComp (cItr (cVar 0)) (.one 4) (cTst (cOp2 eqD (cOp2 getD (cVar 4) (cC (.int 0))) (cVar 2))) (cVar 4) [4]))) (gN 3) (sIf (cTst (cOp2 notInD (cVar 3) (cVar 1))) (sExp (cApp (cVar 1) (cVar 3))) sNext)))
  (sRet (cS1 tupS (cSeq (cVar 1))))))
noncomputable def m__law_sorted : M := mDef 5 b__law_sorted
noncomputable def b__law_seen (m : M) : S := (sSeq (sIf (tOrD (tNotD (cTru (cB1 (isiD .tuple) (cVar 0)))) (cTst (cOp2 eqD (cB1 lenD (cVar 0)) (cC (.int 0))))) (sRet (cNew (cLst []))) sNext)
  (sSeq (sIf (tAndD (cTru (cB1 (isiD .str) (cOp2 getD (cVar 0) (cC (.int 0))))) (cTst (cInL false (cOp2 getD (cVar 0) (cC (.int 0))) (cLst [(cC (.str "value")), (cC (.str "field"))])))) (sRet (cNew (cLst [(cVar 0)]))) sNext)
  (sSeq (sSet 1 (cNew (cLst [])))
  (sSeq (sFor (cItr (cSlice (cVar 0) (cPart (cOp2 mulD (cC (.int 2)) (cB1 intD (cAnd (cB1 (isiD .str) (cOp2 getD (cVar 0) (cC (.int 0)))) (cOp2 eqD (cOp2 getD (cVar 0) (cC (.int 0))) (cC (.str "set"))))))) cNoPart)) (gN 2) (sSet 1 (cOp2 addD (cVar 1) (cCall m [(cVar 2)]))))
  (sRet (cVar 1))))))
noncomputable def m__law_seen : Nat → M
  | 0 => fun _ _ => .bad
  | n + 1 => mDef 3 (b__law_seen (m__law_seen n))
noncomputable def b__law_nodes (m : M) : S := (sSeq (sIf (tAndD (cTru (cB1 (isiD .tuple) (cVar 0))) (cTst (cOp2 gtD (cB1 lenD (cVar 0)) (cC (.int 0))))) (sSeq (sIf (cTru (cB1 (isiD .str) (cOp2 getD (cVar 0) (cC (.int 0))))) (sExp (cApp (cVar 1) (cVar 0))) sNext)
  (sFor (cItr (cVar 0)) (gN 2) (sExp (cCall m [(cVar 2), (cVar 1)])))) sNext)
  (sRet (cVar 1)))
noncomputable def m__law_nodes : Nat → M
  | 0 => fun _ _ => .bad
  | n + 1 => mDef 3 (b__law_nodes (m__law_nodes n))
noncomputable def b__law_touches : S := (sSeq (sAsg (cOp2 getD (cOp2 getD (cVar 0) (cC (.int 8))) (cVar 1)) (gT 5 (gsCons (gN 2) (gsCons (gN 3) (gsCons (gN 4) (gsCons (gN 5) (gsCons (gN 6) gsNil)))))))
  (sSeq (sSet 7 (cNew (cComp (cItr (cVar 4)) (.one 16) tYesD (cTup [(cC (.str "things")), (cVar 16)]) [16])))
  (sSeq (sSet 8 (cNew (cLst [])))
  (sSeq (sSet 9 (cCall (m__law_nodes 60) [(cTup [(cVar 5), (cVar 6)]), (cNew (cLst []))]))
  (sSeq (sSet 10 (cNew (cComp (cItr (cVar 9)) (.one 12) (cTst (cOp2 eqD (cOp2 getD (cVar 12) (cC (.int 0))) (cC (.str "set")))) (cOp2 getD (cVar 12) (cC (.int 1))) [12])))
  (sSeq (sFor (cItr (cVar 10)) (gN 11) (sExp (cApp (cVar 8) (cIf (cTst (cOp2 eqD (cOp2 getD (cVar 11) (cC (.int 0))) (cC (.str "value")))) (cVar 11) (cTup [(cC (.str "field")), (cOp2 getD (cVar 4) (cOp2 getD (cVar 11) (cC (.int 1)))), (cOp2 getD (cVar 11) (cC (.int 2)))])))))
  (sSeq (sFor (cItr (cVar 9)) (gN 12) (sSeq (sSet 13 (cOp2 getD (cVar 12) (cC (.int 0))))
  (sSeq (sIf (cTst (cOp2 eqD (cVar 13) (cC (.str "make")))) (sSeq (sExp (cApp (cVar 7) (cTup [(cC (.str "things")), (cOp2 getD (cVar 12) (cC (.int 1)))])))
  (sSeq (sExp (cApp (cVar 8) (cTup [(cC (.str "things")), (cOp2 getD (cVar 12) (cC (.int 1)))])))
  (sSet 8 (cNew (cCatE (cVar 8) (cComp (cRng1 (cB1 lenD (cOp2 getD (cOp2 getD (cOp2 getD (cVar 0) (cC (.int 5))) (cOp2 getD (cVar 12) (cC (.int 1)))) (cC (.int 3))))) (.one 17) tYesD (cTup [(cC (.str "field")), (cOp2 getD (cVar 12) (cC (.int 1))), (cVar 17)]) [17])))))) sNext)
  (sSeq (sIf (cTst (cOp2 eqD (cVar 13) (cC (.str "drop")))) (sExp (cApp (cVar 8) (cTup [(cC (.str "things")), (cOp2 getD (cVar 4) (cOp2 getD (cVar 12) (cC (.int 1))))]))) sNext)
  (sSeq (sIf (cTst (cOp2 eqD (cVar 13) (cC (.str "count")))) (sExp (cApp (cVar 7) (cTup [(cC (.str "things")), (cOp2 getD (cVar 12) (cC (.int 1)))]))) sNext)
  (sIf (cTst (cOp2 eqD (cVar 13) (cC (.str "past")))) (sExp (cApp (cVar 7) (cTup [(cC (.str "field")), (cOp2 getD (cVar 4) (cOp2 getD (cVar 12) (cC (.int 1)))), (cOp2 getD (cVar 12) (cC (.int 2)))]))) sNext))))))
  (sSeq (sFor (cItr (cCall (m__law_seen 60) [(cTup [(cVar 5), (cVar 6)])])) (gN 11) (sExp (cApp (cVar 7) (cIf (cTst (cOp2 eqD (cOp2 getD (cVar 11) (cC (.int 0))) (cC (.str "value")))) (cVar 11) (cTup [(cC (.str "field")), (cOp2 getD (cVar 4) (cOp2 getD (cVar 11) (cC (.int 1)))), (cOp2 getD (cVar 11) (cC (.int 2)))])))))
  (sSeq (sSet 14 (cNew (cComp (cItr (cVar 9)) (.one 12) tYesD (cOp2 getD (cVar 12) (cC (.int 0))) [12])))
  (sSeq (sSet 15 (cS1 tupS (cS1 sortedAS (cComp (cRng1 (cB1 lenD (cOp2 getD (cVar 0) (cC (.int 3))))) (.one 18) (cTst (cInL false (cVar 18) (cComp (cItr (cVar 9)) (.one 12) (cTst (cOp2 eqD (cOp2 getD (cVar 12) (cC (.int 0))) (cC (.str "move")))) (cOp2 getD (cVar 12) (cC (.int 2))) [12]))) (cVar 18) [18]))))
  (sRet (cTup [(cC (.str "touches")), (cCall m__law_sorted [(cVar 7)]), (cCall m__law_sorted [(cVar 8)]), (cOp2 inD (cC (.str "draw")) (cVar 14)), (cOp2 inD (cC (.str "tell")) (cVar 14)), (cVar 15)]))))))))))))
noncomputable def m__law_touches : M := mDef 19 b__law_touches
noncomputable def b__law_apart : S := (sSeq (sSet 3 (cCall m__law_touches [(cVar 0), (cVar 1)]))
  (sSeq (sSet 4 (cCall m__law_touches [(cVar 0), (cVar 2)]))
  (sSeq (sSet 5 (cNew (cCatL (cComp (cItr (cOp2 getD (cVar 3) (cC (.int 2)))) (.one 6) (cTst (cOp2 inD (cVar 6) (cOp2 addD (cOp2 getD (cVar 4) (cC (.int 1))) (cOp2 getD (cVar 4) (cC (.int 2)))))) (cVar 6) [6]) (cComp (cItr (cOp2 getD (cVar 4) (cC (.int 2)))) (.one 6) (cTst (cOp2 inD (cVar 6) (cOp2 getD (cVar 3) (cC (.int 1))))) (cVar 6) [6]))))
  (sSeq (sIf (tOrD (cTst (cOp2 gtD (cB1 lenD (cVar 5)) (cC (.int 0)))) (tOrD (tAndD (cTru (cOp2 getD (cVar 3) (cC (.int 3)))) (cTru (cOp2 getD (cVar 4) (cC (.int 3))))) (tAndD (cTru (cOp2 getD (cVar 3) (cC (.int 4)))) (cTru (cOp2 getD (cVar 4) (cC (.int 4))))))) (sRet (cC (.bl false))) sNext)
  (sRet (cOr (cOp2 eqD (cOp2 getD (cVar 3) (cC (.int 5))) (cTup [])) (cOp2 eqD (cOp2 getD (cVar 4) (cC (.int 5))) (cTup []))))))))
noncomputable def m__law_apart : M := mDef 7 b__law_apart
noncomputable def b__law_draw : S := (sSeq (sIf (cTst (cOp2 ltD (cVar 1) (cC (.int 1)))) (sRet (cC (.int 0))) sNext)
  (sSeq (sIf (cTst (cOp2 eqD (cOp2 getD (cVar 0) (cC (.int 0))) (cC (.int 0)))) (sSeq (sSub (cVar 0) (cC (.int 2)) (cOp2 addD (cOp2 getD (cVar 0) (cC (.int 2))) (cC (.int 1))))
  (sSeq (sSet 2 (cOp2 modD (cB1 intD (cOp2 addD (cOp2 addD (cOp2 addD (cOp2 mulD (cOp2 getD (cVar 0) (cC (.int 1))) (cC (.int 48271))) (cOp2 mulD (cOp2 getD (cVar 0) (cC (.int 3))) (cC (.int 69621)))) (cOp2 mulD (cOp2 getD (cVar 0) (cC (.int 2))) (cC (.int 16807)))) (cC (.int 11)))) (cC (.int 2147483647))))
  (sSeq (sSub (cVar 0) (cC (.int 0)) (cOp2 addD (cOp2 mulD (cVar 2) (cC (.int 2147483629))) (cOp2 modD (cB1 intD (cOp2 addD (cOp2 mulD (cVar 2) (cVar 2)) (cOp2 getD (cVar 0) (cC (.int 3))))) (cC (.int 2147483629)))))
  (sSeq (sIf (tAndD (cTst (cOp2 eqD (cOp2 getD (cVar 0) (cC (.int 2))) (cC (.int 1)))) (cTst (cOp2 geD (cOp2 getD (cVar 0) (cC (.int 3))) (cOp2 powD (cC (.int 10)) (cC (.int 18)))))) (sSub (cVar 0) (cC (.int 0)) (cOp2 getD (cVar 0) (cC (.int 3)))) sNext)
  (sSub (cVar 0) (cC (.int 1)) (cVar 2)))))) sNext)
  (sSeq (sSet 3 (cOp2 getD (cVar 0) (cC (.int 0))))
  (sSeq (sSub (cVar 0) (cC (.int 0)) (cOp2 fdivD (cVar 3) (cVar 1)))
  (sRet (cOp2 modD (cB1 intD (cVar 3)) (cVar 1)))))))
noncomputable def m__law_draw : M := mDef 4 b__law_draw
noncomputable def b__law_same (m : M) : S := (sSeq (sIf (cTru (cB1 (isiD .tuple) (cVar 0))) (sRet (cAnd (cB1 (isiD .tuple) (cVar 1)) (cAnd (cOp2 eqD (cB1 lenD (cVar 0)) (cB1 lenD (cVar 1))) (cInL true (cC (.bl false)) (cComp (cRng1 (cB1 lenD (cVar 0))) (.one 2) tYesD (cCall m [(cOp2 getD (cVar 0) (cVar 2)), (cOp2 getD (cVar 1) (cVar 2))]) [2]))))) sNext)
  (sSeq (sIf (cTst (cOp2 isND (cVar 0) (cC .non))) (sRet (cOp2 isND (cVar 1) (cC .non))) sNext)
  (sSeq (sIf (cTru (cB1 (isiD .str) (cVar 0))) (sRet (cAnd (cB1 (isiD .str) (cVar 1)) (cOp2 eqD (cVar 0) (cVar 1)))) sNext)
  (sRet (cAnd (cB1 (isiD .int) (cVar 1)) (cAnd (cNot (cB1 (isiD .bool) (cVar 1))) (cOp2 eqD (cVar 0) (cVar 1))))))))
noncomputable def m__law_same : Nat → M
  | 0 => fun _ _ => .bad
  | n + 1 => mDef 3 (b__law_same (m__law_same n))
noncomputable def b__law_alike : S := (sSeq (sIf (tOrD (tNotD (cTru (cB1 (isiD .tuple) (cVar 1)))) (tOrD (cTst (cOp2 neD (cB1 lenD (cVar 1)) (cC (.int 6)))) (cTst (cOp2 neD (cNew (cLst [(cB1 reprD (cOp2 getD (cVar 1) (cC (.int 3)))), (cB1 reprD (cOp2 getD (cVar 1) (cC (.int 4))))])) (cNew (cLst [(cB1 reprD (cOp2 getD (cVar 0) (cC (.int 3)))), (cB1 reprD (cOp2 getD (cVar 0) (cC (.int 4))))])))))) (sRet (cC (.bl false))) sNext)
  (sRet (cCall (m__law_same 4) [(cOp2 addD (cSlice (cVar 0) cNoPart (cPart (cC (.int 3)))) (cSlice (cVar 0) (cPart (cC (.int 5))) cNoPart)), (cOp2 addD (cSlice (cVar 1) cNoPart (cPart (cC (.int 3)))) (cSlice (cVar 1) (cPart (cC (.int 5))) cNoPart))])))
noncomputable def m__law_alike : M := mDef 2 b__law_alike
noncomputable def b__law_leaf : S := (sSeq (sSet 3 (cCall m__law_draw [(cVar 0), (cC (.int 6))]))
  (sSeq (sIf (tAndD (cTst (cOp2 eqD (cVar 3) (cC (.int 0)))) (cTst (cOp2 gtD (cB1 lenD (cOp2 getD (cVar 1) (cC (.int 4)))) (cC (.int 0))))) (sRet (cTup [(cC (.str "value")), (cCall m__law_draw [(cVar 0), (cB1 lenD (cOp2 getD (cVar 1) (cC (.int 4))))])])) sNext)
  (sSeq (sIf (tAndD (cTst (cOp2 ltD (cVar 3) (cC (.int 3)))) (cTst (cOp2 gtD (cB1 lenD (cVar 2)) (cC (.int 0))))) (sSeq (sSet 4 (cCall m__law_draw [(cVar 0), (cB1 lenD (cVar 2))]))
  (sRet (cTup [(cC (.str "field")), (cVar 4), (cCall m__law_draw [(cVar 0), (cB1 lenD (cOp2 getD (cOp2 getD (cOp2 getD (cVar 1) (cC (.int 5))) (cOp2 getD (cVar 2) (cVar 4))) (cC (.int 3))))])]))) sNext)
  (sSeq (sIf (tAndD (cTst (cOp2 eqD (cVar 3) (cC (.int 3)))) (cTst (cOp2 gtD (cB1 lenD (cOp2 getD (cVar 1) (cC (.int 5)))) (cC (.int 0))))) (sRet (cTup [(cC (.str "count")), (cCall m__law_draw [(cVar 0), (cB1 lenD (cOp2 getD (cVar 1) (cC (.int 5))))])])) sNext)
  (sSeq (sIf (cTst (cOp2 eqD (cVar 3) (cC (.int 4)))) (sRet (cTup [(cC (.str "tick"))])) sNext)
  (sRet (cTup [(cC (.str "number")), (cIxL (cLst [(cC (.int 0)), (cC (.int 1)), (cC (.int 2)), (cC (.int 3)), (cC (.int 5)), (cC (.int 7)), (cC (.int 2147483647)), (cCall m__law_draw [(cVar 0), (cC (.int 5000))])]) (cCall m__law_draw [(cVar 0), (cC (.int 8))]))])))))))
noncomputable def m__law_leaf : M := mDef 5 b__law_leaf
noncomputable def b__law_e (m : M) : S := (sSeq (sSet 4 (cCall m__law_draw [(cVar 0), (cC (.int 9))]))
  (sSeq (sIf (tOrD (cTst (cOp2 ltD (cVar 3) (cC (.int 2)))) (cTst (cOp2 ltD (cVar 4) (cC (.int 2))))) (sRet (cCall m__law_leaf [(cVar 0), (cVar 1), (cVar 2)])) sNext)
  (sSeq (sIf (cTst (cOp2 eqD (cVar 4) (cC (.int 2)))) (sRet (cTup [(cC (.str "not")), (cCall m [(cVar 0), (cVar 1), (cVar 2), (cOp2 subD (cVar 3) (cC (.int 1)))])])) sNext)
  (sSeq (sIf (cTst (cOp2 eqD (cVar 4) (cC (.int 3)))) (sRet (cTup [(cC (.str "draw")), (cCall m [(cVar 0), (cVar 1), (cVar 2), (cOp2 subD (cVar 3) (cC (.int 1)))])])) sNext)
  (sSeq (sIf (cTst (cOp2 eqD (cVar 4) (cC (.int 4)))) (sRet (cTup [(cC (.str "move")), (cCall m [(cVar 0), (cVar 1), (cVar 2), (cOp2 subD (cVar 3) (cC (.int 1)))]), (cCall m__law_draw [(cVar 0), (cB1 lenD (cOp2 getD (cVar 1) (cC (.int 3))))])])) sNext)
  (sSeq (sIf (tAndD (cTst (cOp2 eqD (cVar 4) (cC (.int 5)))) (cTst (cOp2 gtD (cB1 lenD (cVar 2)) (cC (.int 0))))) (sSeq (sSet 5 (cCall m__law_draw [(cVar 0), (cB1 lenD (cVar 2))]))
  (sRet (cTup [(cC (.str "past")), (cVar 5), (cCall m__law_draw [(cVar 0), (cB1 lenD (cOp2 getD (cOp2 getD (cOp2 getD (cVar 1) (cC (.int 5))) (cOp2 getD (cVar 2) (cVar 5))) (cC (.int 3))))]), (cCall m [(cVar 0), (cVar 1), (cVar 2), (cOp2 subD (cVar 3) (cC (.int 1)))])]))) sNext)
  (sSeq (sSet 6 (cNew (cLst [(cC (.str "+")), (cC (.str "-")), (cC (.str "*")), (cC (.str "/")), (cC (.str "mod")), (cC (.str "==")), (cC (.str "!=")), (cC (.str "<")), (cC (.str "<=")), (cC (.str ">")), (cC (.str ">=")), (cC (.str "and")), (cC (.str "or"))])))
  (sSeq (sSet 7 (cCall m [(cVar 0), (cVar 1), (cVar 2), (cOp2 subD (cVar 3) (cC (.int 1)))]))
  (sRet (cTup [(cC (.str "op")), (cOp2 getD (cVar 6) (cCall m__law_draw [(cVar 0), (cC (.int 13))])), (cVar 7), (cCall m [(cVar 0), (cVar 1), (cVar 2), (cOp2 subD (cVar 3) (cC (.int 1)))])]))))))))))
noncomputable def m__law_e : Nat → M
  | 0 => fun _ _ => .bad
  | n + 1 => mDef 8 (b__law_e (m__law_e n))
noncomputable def b__law_s (m : Nat → M) : S := (sSeq (sSet 4 (cCall m__law_draw [(cVar 0), (cC (.int 8))]))
  (sSeq (sIf (tAndD (cTst (cOp2 ltD (cVar 4) (cC (.int 2)))) (cTst (cOp2 gtD (cB1 lenD (cVar 2)) (cC (.int 0))))) (sSeq (sSet 5 (cCall m__law_draw [(cVar 0), (cB1 lenD (cVar 2))]))
  (sSeq (sSet 6 (cTup [(cC (.str "field")), (cVar 5), (cCall m__law_draw [(cVar 0), (cB1 lenD (cOp2 getD (cOp2 getD (cOp2 getD (cVar 1) (cC (.int 5))) (cOp2 getD (cVar 2) (cVar 5))) (cC (.int 3))))])]))
  (sRet (cTup [(cC (.str "set")), (cVar 6), (cCall (m__law_e 12) [(cVar 0), (cVar 1), (cVar 2), (cOp2 subD (cVar 3) (cC (.int 1)))])])))) sNext)
  (sSeq (sIf (tAndD (cTst (cOp2 ltD (cVar 4) (cC (.int 4)))) (cTst (cOp2 gtD (cB1 lenD (cOp2 getD (cVar 1) (cC (.int 5)))) (cC (.int 0))))) (sSeq (sSet 7 (cCall m__law_draw [(cVar 0), (cB1 lenD (cOp2 getD (cVar 1) (cC (.int 5))))]))
  (sRet (cTup [(cC (.str "make")), (cVar 7), (cS1 tupS (cComp (cItr (cOp2 getD (cOp2 getD (cOp2 getD (cVar 1) (cC (.int 5))) (cVar 7)) (cC (.int 3)))) (.one 9) tYesD (cCall (m__law_e 12) [(cVar 0), (cVar 1), (cVar 2), (cOp2 min2D (cC (.int 3)) (cOp2 subD (cVar 3) (cC (.int 1))))]) [9]))]))) sNext)
  (sSeq (sIf (tAndD (cTst (cOp2 eqD (cVar 4) (cC (.int 4)))) (cTst (cOp2 gtD (cB1 lenD (cVar 2)) (cC (.int 0))))) (sRet (cTup [(cC (.str "drop")), (cCall m__law_draw [(cVar 0), (cB1 lenD (cVar 2))])])) sNext)
  (sSeq (sIf (tAndD (cTst (cOp2 eqD (cVar 4) (cC (.int 5)))) (cTst (cOp2 gtD (cB1 lenD (cOp2 getD (cVar 1) (cC (.int 6)))) (cC (.int 0))))) (sRet (cTup [(cC (.str "tell")), (cCall m__law_draw [(cVar 0), (cB1 lenD (cOp2 getD (cVar 1) (cC (.int 6))))]), (cCall (m__law_e 12) [(cVar 0), (cVar 1), (cVar 2), (cOp2 subD (cVar 3) (cC (.int 1)))])])) sNext)
  (sSeq (sIf (tAndD (cTst (cOp2 eqD (cVar 4) (cC (.int 6)))) (cTst (cOp2 gtD (cVar 3) (cC (.int 2))))) (sSeq (sSet 8 (cCall (m__law_e 12) [(cVar 0), (cVar 1), (cVar 2), (cOp2 subD (cVar 3) (cC (.int 1)))]))
  (sRet (cTup [(cC (.str "if")), (cVar 8), (cCall (m 1) [(cVar 0), (cVar 1), (cVar 2), (cOp2 subD (cVar 3) (cC (.int 1))), (cC (.int 3))]), (cCall (m 1) [(cVar 0), (cVar 1), (cVar 2), (cOp2 subD (cVar 3) (cC (.int 1))), (cC (.int 2))])]))) sNext)
  (sSeq (sIf (cTst (cOp2 gtD (cB1 lenD (cOp2 getD (cVar 1) (cC (.int 4)))) (cC (.int 0)))) (sRet (cTup [(cC (.str "set")), (cTup [(cC (.str "value")), (cCall m__law_draw [(cVar 0), (cB1 lenD (cOp2 getD (cVar 1) (cC (.int 4))))])]), (cCall (m__law_e 12) [(cVar 0), (cVar 1), (cVar 2), (cOp2 subD (cVar 3) (cC (.int 1)))])])) sNext)
  (sRet (cTup [(cC (.str "if")), (cCall m__law_leaf [(cVar 0), (cVar 1), (cVar 2)]), (cTup []), (cTup [])])))))))))
noncomputable def b__law_b (m : Nat → M) : S := (sRet (cS1 tupS (cComp (cRng1 (cCall m__law_draw [(cVar 0), (cVar 4)])) (.one 5) tYesD (cCall (m 0) [(cVar 0), (cVar 1), (cVar 2), (cVar 3)]) [5])))
noncomputable def r__law_s : Nat → Nat → M
  | 0, _ => fun _ _ => .bad
  | n + 1, j => match j with
    | 0 => mDef 10 (b__law_s (r__law_s n))
    | 1 => mDef 6 (b__law_b (r__law_s n))
    | _ => fun _ _ => .bad
noncomputable abbrev m__law_s (n : Nat) : M := r__law_s n 0
noncomputable abbrev m__law_b (n : Nat) : M := r__law_s n 1
noncomputable def b__law_names : S := (sSeq (sSet 1 (cNew (cLst [(cC (.str "x")), (cC (.str "up")), (cC (.str "ball")), (cC (.str "a")), (cC (.str "n1")), (cC (.str "score")), (cC (.str "z")), (cC (.str "to")), (cC (.str "b")), (cC (.str "k9")), (cC (.str "abcdefghijkl")), (cC (.str "y2"))])))
  (sRet (cNew (cComp (cRng1 (cC (.int 12))) (.one 2) tYesD (cOp2 getD (cVar 1) (cOp2 modD (cB1 intD (cOp2 addD (cVar 0) (cVar 2))) (cC (.int 12)))) [2]))))
noncomputable def m__law_names : M := mDef 3 b__law_names
noncomputable def b__law_range : S := (sSeq (sSet 1 (cNew (cLst [(cTup [(cC (.int 0)), (cC (.int 1))]), (cTup [(cC (.int 0)), (cC (.int 9))]), (cTup [(cOp1 negD (cC (.int 3))), (cC (.int 3))]), (cTup [(cC (.int 5)), (cC (.int 7))]), (cTup [(cOp1 negD (cC (.int 9))), (cOp1 negD (cC (.int 2)))]), (cTup [(cC (.int 0)), (cC (.int 0))]), (cTup [(cOp1 negD (cC (.int 2147483647))), (cC (.int 2147483647))]), (cTup [(cOp1 negD (cC (.int 100))), (cC (.int 100))])])))
  (sSeq (sAsg (cOp2 getD (cVar 1) (cCall m__law_draw [(cVar 0), (cC (.int 8))])) (gT 2 (gsCons (gN 2) (gsCons (gN 3) gsNil))))
  (sSeq (sIf (cTst (cOp2 eqD (cCall m__law_draw [(cVar 0), (cC (.int 8))]) (cC (.int 0)))) (sSeq (sSet 2 (cOp2 subD (cCall m__law_draw [(cVar 0), (cC (.int 2001))]) (cC (.int 1000))))
  (sSet 3 (cOp2 addD (cVar 2) (cCall m__law_draw [(cVar 0), (cIxL (cLst [(cC (.int 3)), (cC (.int 300)), (cC (.int 2000000000))]) (cCall m__law_draw [(cVar 0), (cC (.int 3))]))])))) sNext)
  (sRet (cTup [(cVar 2), (cVar 3)])))))
noncomputable def m__law_range : M := mDef 4 b__law_range
noncomputable def b__law_declared : S := (sSeq (sSet 2 (cIxL (cLst [(cC (.int 3)), (cC (.int 6))]) (cVar 1)))
  (sSeq (sSet 3 (cCall m__law_names [(cCall m__law_draw [(cVar 0), (cC (.int 12))])]))
  (sSeq (sSet 4 (cNew (cLst [])))
  (sSeq (sFor (cRng1 (cOp2 addD (cC (.int 1)) (cCall m__law_draw [(cVar 0), (cIxL (cLst [(cC (.int 3)), (cC (.int 8))]) (cVar 1))]))) (gN 5) (sExp (cApp (cVar 4) (cOp2 addD (cOp2 addD (cTup [(cOp2 getD (cVar 3) (cVar 5))]) (cCall m__law_range [(cVar 0)])) (cTup [(cIxL (cLst [(cC (.str "held")), (cC (.str "struck"))]) (cCall m__law_draw [(cVar 0), (cC (.int 2))]))])))))
  (sSeq (sSet 6 (cS1 tupS (cComp (cRng1 (cCall m__law_draw [(cVar 0), (cIxL (cLst [(cC (.int 4)), (cC (.int 9))]) (cVar 1))])) (.one 5) tYesD (cOp2 addD (cTup [(cOp2 getD (cVar 3) (cVar 5))]) (cCall m__law_range [(cVar 0)])) [5])))
  (sSeq (sSet 7 (cNew (cLst [])))
  (sSeq (sFor (cRng1 (cCall m__law_draw [(cVar 0), (cOp2 addD (cVar 2) (cC (.int 1)))])) (gN 5) (sSeq (sSet 8 (cOp2 addD (cC (.int 1)) (cCall m__law_draw [(cVar 0), (cIxL (cLst [(cC (.int 4)), (cC (.int 12))]) (cVar 1))])))
  (sSeq (sSet 9 (cIxL (cLst [(cC (.int 0)), (cC (.int 0)), (cOp2 addD (cC (.int 1)) (cCall m__law_draw [(cVar 0), (cIxL (cLst [(cC (.int 2)), (cC (.int 8))]) (cVar 1))]))]) (cCall m__law_draw [(cVar 0), (cC (.int 3))])))
  (sSeq (sSet 10 (cS1 tupS (cComp (cRng1 (cOp2 addD (cC (.int 1)) (cCall m__law_draw [(cVar 0), (cVar 2)]))) (.one 13) tYesD (cOp2 addD (cTup [(cOp2 getD (cVar 3) (cOp2 addD (cVar 13) (cC (.int 1))))]) (cCall m__law_range [(cVar 0)])) [13])))
  (sExp (cApp (cVar 7) (cTup [(cOp2 getD (cVar 3) (cVar 5)), (cVar 8), (cVar 9), (cVar 10)])))))))
  (sSeq (sSet 11 (cS1 tupS (cSeq (cSlice (cVar 3) cNoPart (cPart (cCall m__law_draw [(cVar 0), (cIxL (cLst [(cC (.int 3)), (cC (.int 9))]) (cVar 1))]))))))
  (sSeq (sSet 12 (cOp2 addD (cC (.int 1)) (cCall m__law_draw [(cVar 0), (cIxL (cLst [(cC (.int 3)), (cC (.int 6))]) (cVar 1))])))
  (sRet (cTup [(cC (.str "world")), (cOp2 getD (cVar 3) (cC (.int 11))), (cVar 12), (cS1 tupS (cSeq (cVar 4))), (cVar 6), (cS1 tupS (cSeq (cVar 7))), (cVar 11)])))))))))))
noncomputable def m__law_declared : M := mDef 14 b__law_declared
noncomputable def b__law_world : S := (sSeq (sSet 2 (cCall m__law_declared [(cVar 0), (cVar 1)]))
  (sSeq (sSet 3 (cOp2 addD (cC (.int 2)) (cCall m__law_draw [(cVar 0), (cIxL (cLst [(cC (.int 4)), (cC (.int 7))]) (cVar 1))])))
  (sSeq (sSet 4 (cCall (m__law_b 30) [(cVar 0), (cVar 2), (cTup []), (cVar 3), (cIxL (cLst [(cC (.int 5)), (cC (.int 9))]) (cVar 1))]))
  (sSeq (sSet 5 (cNew (cLst [])))
  (sSeq (sSet 6 (cNew (cCatE (cCall m__law_names [(cCall m__law_draw [(cVar 0), (cC (.int 12))])]) (cComp (cRng1 (cC (.int 8))) (.one 7) tYesD (cOp2 addD (cC (.str "r")) (cB1 strD (cVar 7))) [7]))))
  (sSeq (sFor (cRng1 (cCall m__law_draw [(cVar 0), (cIxL (cLst [(cC (.int 5)), (cC (.int 21))]) (cVar 1))])) (gN 7) (sSeq (sSet 8 (cTup []))
  (sSeq (sIf (cTst (cOp2 gtD (cB1 lenD (cOp2 getD (cVar 2) (cC (.int 5)))) (cC (.int 0)))) (sSet 8 (cS1 tupS (cComp (cRng1 (cCall m__law_draw [(cVar 0), (cC (.int 3))])) (.one 10) tYesD (cCall m__law_draw [(cVar 0), (cB1 lenD (cOp2 getD (cVar 2) (cC (.int 5))))]) [10]))) sNext)
  (sSeq (sSet 9 (cC .non))
  (sSeq (sIf (cTst (cOp2 eqD (cCall m__law_draw [(cVar 0), (cC (.int 2))]) (cC (.int 0)))) (sSet 9 (cCall (m__law_e 12) [(cVar 0), (cVar 2), (cVar 8), (cOp2 min2D (cC (.int 4)) (cVar 3))])) sNext)
  (sExp (cApp (cVar 5) (cTup [(cC (.str "rule")), (cOp2 getD (cVar 6) (cVar 7)), (cVar 8), (cVar 9), (cCall (m__law_b 30) [(cVar 0), (cVar 2), (cVar 8), (cVar 3), (cC (.int 4))])]))))))))
  (sRet (cOp2 addD (cVar 2) (cTup [(cVar 4), (cS1 tupS (cSeq (cVar 5)))])))))))))
noncomputable def m__law_world : M := mDef 11 b__law_world
noncomputable def b__law_bag : S := (sSeq (sSet 2 (cC (.int 0)))
  (sSeq (sIf (cTst (cOp2 ltD (cVar 1) (cB1 lenD (cVar 0)))) (sSet 2 (cB1 intD (cOp2 getD (cVar 0) (cVar 1)))) sNext)
  (sRet (cNew (cLst [(cC (.int 0)), (cOp2 addD (cC (.int 233)) (cOp2 mulD (cC (.int 48611)) (cVar 1))), (cC (.int 0)), (cVar 2)])))))
noncomputable def m__law_bag : M := mDef 3 b__law_bag
noncomputable def b_law : S := (sSeq (sFor (cRng1 (cOp2 max2D (cC (.int 1)) (cOp2 min2D (cC (.int 6)) (cB1 lenD (cVar 0))))) (gN 1) (sSeq (sSet 2 (cCall m__law_bag [(cVar 0), (cVar 1)]))
  (sSeq (sSet 3 (cCall m__law_world [(cVar 2), (cB1 intD (cOp2 eqD (cCall m__law_draw [(cVar 2), (cC (.int 6))]) (cC (.int 0))))]))
  (sSeq (sFor (cRng1 (cB1 lenD (cOp2 getD (cVar 3) (cC (.int 8))))) (gN 4) (sIf (tNotD (cTru (cCall m__law_alike [(cCall m__law_touches [(cVar 3), (cVar 4)]), (cCall m_touches [(cVar 3), (cVar 4)])]))) (sRet (cC (.bl false))) sNext))
  (sFor (cRng1 (cOp2 mulD (cC (.int 6)) (cB1 intD (cOp2 gtD (cB1 lenD (cOp2 getD (cVar 3) (cC (.int 8)))) (cC (.int 1)))))) (gN 5) (sSeq (sSet 6 (cCall m__law_draw [(cVar 2), (cB1 lenD (cOp2 getD (cVar 3) (cC (.int 8))))]))
  (sSeq (sSet 4 (cOp2 modD (cB1 intD (cOp2 addD (cOp2 addD (cVar 6) (cC (.int 1))) (cCall m__law_draw [(cVar 2), (cOp2 subD (cB1 lenD (cOp2 getD (cVar 3) (cC (.int 8)))) (cC (.int 1)))]))) (cB1 lenD (cOp2 getD (cVar 3) (cC (.int 8))))))
  (sSeq (sSet 7 (cB1 reprD (cCall m__law_apart [(cVar 3), (cVar 6), (cVar 4)])))
  (sIf (tOrD (cTst (cOp2 neD (cB1 reprD (cCall m_apart [(cVar 3), (cVar 6), (cVar 4)])) (cVar 7))) (cTst (cOp2 neD (cB1 reprD (cCall m_apart [(cVar 3), (cVar 4), (cVar 6)])) (cVar 7)))) (sRet (cC (.bl false))) sNext)))))))))
  (sRet (cC (.bl true))))
noncomputable def m_law : M := mDef 8 b_law
end PMl

set_option Elab.async false
set_option linter.all false
set_option maxRecDepth 100000
set_option maxHeartbeats 1000000
/-! the plain law of k95, 1: the bag. -/
namespace PMl
open PySem PM L2

def bagO (x y z c : Int) : O := .lst [.int x, .int y, .int z, .int c]
theorem set_self {st : Sto} {n : Nat} {o : O} (h : st[n]? = some o) : st.set n o = st := by
  apply List.ext_getElem?
  intro i
  by_cases e : i = n
  · subst e; rw [List.getElem?_set_self (lt_get h), h]
  · rw [List.getElem?_set_ne (Ne.symm e)]
/-- the store goes on: all stays but the bag b -/
structure Kp (b : Nat) (st st' : Sto) : Prop where
  le : st.length ≤ st'.length
  eq : ∀ n o, st[n]? = some o → n ≠ b → st'[n]? = some o
  bag : ∃ x y z c, st'[b]? = some (bagO x y z c)
/-- there is a bag at b -/
def Bg (b : Nat) (st : Sto) : Prop := ∃ x y z c, st[b]? = some (bagO x y z c)
theorem Kp.refl {b : Nat} {st : Sto} (h : Bg b st) : Kp b st st := ⟨Nat.le_refl _, fun _ _ h _ => h, h⟩
theorem Kp.trans {b : Nat} {s t u : Sto} (h : Kp b s t) (k : Kp b t u) : Kp b s u := ⟨Nat.le_trans h.le k.le, fun n o e hn => k.eq n o (h.eq n o e hn) hn, k.bag⟩
theorem Kp.app {b : Nat} {st g : Sto} (h : Bg b st) : Kp b st (st ++ g) := ⟨by simp, fun n o e _ => get_app e, by
  obtain ⟨x, y, z, c, e⟩ := h
  exact ⟨x, y, z, c, get_app e⟩⟩
theorem Kp.app' {b : Nat} {s st g : Sto} (h : Kp b s st) : Kp b s (st ++ g) := h.trans (Kp.app h.bag)
theorem Kp.pre {b : Nat} {st st' : Sto} (h : Bg b st) (p : st <+: st') : Kp b st st' := by
  obtain ⟨g, rfl⟩ := p
  exact Kp.app h
theorem Kp.set {b : Nat} {st : Sto} {x y z c : Int} (h : Bg b st) : Kp b st (st.set b (bagO x y z c)) := by
  obtain ⟨x', y', z', c', e⟩ := h
  exact ⟨by simp, fun n o e hn => by rw [get_set_ne hn]; exact e, x, y, z, c, get_set_eq e⟩
/-- an object that is new is written -/
theorem Kp.new {b : Nat} {s t : Sto} {n : Nat} {o : O} (h : Kp b s t) (hn : s.length ≤ n) (hb : n ≠ b) : Kp b s (t.set n o) := ⟨by rw [List.length_set]; exact h.le, fun m o' e hm => by
  rw [get_set_ne (by have := lt_get e; omega)]
  exact h.eq m o' e hm, by
  obtain ⟨x, y, z, c, e⟩ := h.bag
  exact ⟨x, y, z, c, by rw [get_set_ne (Ne.symm hb)]; exact e⟩⟩
theorem Bg.lt {b : Nat} {st : Sto} (h : Bg b st) : b < st.length := by
  obtain ⟨x, y, z, c, e⟩ := h
  exact lt_get e
/-- behind a def -/
theorem gcR_kp {b : Nat} {st st' : Sto} {d : D} (hb : Bg b st) (h : Kp b st st') : ∃ st2, gcR st (.ok d st') = .ok d st2 ∧ Kp b st st2 := by
  by_cases hc : st <+: st' ∧ below st.length d = true
  · exact ⟨st, by simp only [gcR]; rw [if_pos hc], Kp.refl hb⟩
  · exact ⟨st', by simp only [gcR]; rw [if_neg hc], h⟩
theorem gcR_loc {st st' : Sto} {n : Nat} (h : st.length ≤ n) : gcR st (.ok (.loc n) st') = .ok (.loc n) st' := by
  simp only [gcR]
  rw [if_neg]
  rintro ⟨_, h2⟩
  simp [below] at h2
  omega
theorem draw_ok {st : Sto} {b : Nat} {many : Int} (h : Bg b st) (h2 : many ≤ 2 ^ 40) :
    ∃ v st', m__law_draw [.loc b, .int many] st = .ok (.int v) st' ∧ Kp b st st' ∧ (0 < many → 0 ≤ v ∧ v < many) ∧ (many ≤ 0 → v = 0) := by
  by_cases h1 : many < 1
  · refine ⟨0, st, ?_, Kp.refl h, fun z => by omega, fun _ => rfl⟩
    show gcR st (outR (b__law_draw [some (.loc b), some (.int many), none, none] st)) = _
    unfold b__law_draw
    simp [ltD, h1, outR, gcR_id]
  have hbg := h
  obtain ⟨x, y, z, c, h⟩ := h
  have hb := lt_get h
  have q1 : ∀ (o : O), (st.set b o)[b]? = some o := fun o => List.getElem?_set_self hb
  have g0 : ∀ (x y z c : Int), getD (.loc b) (.int 0) (st.set b (bagO x y z c)) = .ok (.int x) (st.set b (bagO x y z c)) := fun x y z c => (getD_lst (q1 _)).trans rfl
  have g1 : ∀ (x y z c : Int), getD (.loc b) (.int 1) (st.set b (bagO x y z c)) = .ok (.int y) (st.set b (bagO x y z c)) := fun x y z c => (getD_lst (q1 _)).trans rfl
  have g2 : ∀ (x y z c : Int), getD (.loc b) (.int 2) (st.set b (bagO x y z c)) = .ok (.int z) (st.set b (bagO x y z c)) := fun x y z c => (getD_lst (q1 _)).trans rfl
  have g3 : ∀ (x y z c : Int), getD (.loc b) (.int 3) (st.set b (bagO x y z c)) = .ok (.int c) (st.set b (bagO x y z c)) := fun x y z c => (getD_lst (q1 _)).trans rfl
  have s0 : ∀ (v x y z c : Int), setD (.loc b) (.int 0) (.int v) (st.set b (bagO x y z c)) = some (st.set b (bagO v y z c)) := fun v x y z c => (setD_lst (q1 _)).trans (show some ((st.set b _).set b _) = _ by rw [List.set_set]; rfl)
  have s1 : ∀ (v x y z c : Int), setD (.loc b) (.int 1) (.int v) (st.set b (bagO x y z c)) = some (st.set b (bagO x v z c)) := fun v x y z c => (setD_lst (q1 _)).trans (show some ((st.set b _).set b _) = _ by rw [List.set_set]; rfl)
  have s2 : ∀ (v x y z c : Int), setD (.loc b) (.int 2) (.int v) (st.set b (bagO x y z c)) = some (st.set b (bagO x y v c)) := fun v x y z c => (setD_lst (q1 _)).trans (show some ((st.set b _).set b _) = _ by rw [List.set_set]; rfl)
  have hm : many.natAbs.log2 < 9000 := small_log (by omega)
  have e1 : ∀ (i : Int) (s : Sto), modD (.int i) (.int 2147483647) s = .ok (.int (i.fmod 2147483647)) s := fun i s => modD_int s (by decide)
  have e2 : ∀ (i : Int) (s : Sto), modD (.int i) (.int 2147483629) s = .ok (.int (i.fmod 2147483629)) s := fun i s => modD_int s (by decide)
  have e3 : ∀ (i : Int) (s : Sto), modD (.int i) (.int many) s = .ok (.int (i.fmod many)) s := fun i s => modD_int s (by omega)
  have e4 : ∀ (i : Int) (s : Sto), fdivD (.int i) (.int many) s = .ok (.int (i.fdiv many)) s := fun i s => fdivD_int s (by omega) hm
  have m1 : ∀ (i : Int) (s : Sto), mulD (.int i) (.int 48271) s = .ok (.int (i * 48271)) s := fun i s => mulD_int s (by decide)
  have m2 : ∀ (i : Int) (s : Sto), mulD (.int i) (.int 69621) s = .ok (.int (i * 69621)) s := fun i s => mulD_int s (by decide)
  have m3 : ∀ (i : Int) (s : Sto), mulD (.int i) (.int 2147483629) s = .ok (.int (i * 2147483629)) s := fun i s => mulD_int s (by decide)
  have m4 : ∀ (i : Int) (s : Sto), mulD (.int i) (.int 16807) s = .ok (.int (i * 16807)) s := fun i s => mulD_int s (by decide)
  have pw : ∀ s : Sto, powD (.int 10) (.int 18) s = .ok (.int 1000000000000000000) s := fun s => by
    show (if shC 10 18 = true then R.ok (D.int (10 ^ (18 : Int).toNat)) s else .bad) = _
    rw [if_pos (by decide)]; rfl
  have fin : ∀ (r : Int), 0 ≤ r.fmod many ∧ r.fmod many < many := fun r => ⟨Int.fmod_nonneg_of_pos r (by omega), Int.fmod_lt_of_pos r (by omega)⟩
  have key : ∀ {v x' y' z' c' : Int}, (b__law_draw [some (.loc b), some (.int many), none, none] (st.set b (bagO x y z c)) = .rt (.int v) (st.set b (bagO x' y' z' c')) ∧ 0 ≤ v ∧ v < many) → ∃ v st', m__law_draw [.loc b, .int many] st = .ok (.int v) st' ∧ Kp b st st' ∧ (0 < many → 0 ≤ v ∧ v < many) ∧ (many ≤ 0 → v = 0) := fun {v x' y' z' c'} ⟨e, h3⟩ => by
    refine ⟨v, st.set b (bagO x' y' z' c'), ?_, Kp.set hbg, fun _ => h3, fun z => by omega⟩
    show gcR st (outR (b__law_draw [some (.loc b), some (.int many), none, none] st)) = _
    rw [set_self h] at e
    rw [e]
    exact gcR_same List.length_set
  by_cases hx : x = 0
  · subst hx
    obtain ⟨w, hw⟩ : ∃ w, z + 1 = w := ⟨_, rfl⟩
    have ha : ∀ s : Sto, addD (.int z) (.int 1) s = .ok (.int w) s := fun s => by rw [addD_int, hw]
    obtain ⟨sd, hs⟩ : ∃ sd, (y * 48271 + c * 69621 + w * 16807 + 11).fmod 2147483647 = sd := ⟨_, rfl⟩
    have m5 : ∀ (s : Sto), mulD (.int sd) (.int sd) s = .ok (.int (sd * sd)) s := fun s => mulD_int s (by
      have := Int.fmod_nonneg_of_pos (y * 48271 + c * 69621 + w * 16807 + 11) (show (0 : Int) < 2147483647 by decide)
      have := Int.fmod_lt_of_pos (y * 48271 + c * 69621 + w * 16807 + 11) (show (0 : Int) < 2147483647 by decide)
      omega)
    obtain ⟨r, hr⟩ : ∃ r, sd * 2147483629 + (sd * sd + c).fmod 2147483629 = r := ⟨_, rfl⟩
    have q0 : ∀ s : Sto, eqD (.int 0) (.int 0) s = .ok (.bl true) s := fun s => rfl
    by_cases hc : w = 1 ∧ 1000000000000000000 ≤ c
    · refine key (v := c.fmod many) (x' := c.fdiv many) (y' := sd) (z' := w) (c' := c) ⟨?_, fin c⟩
      have qw : ∀ s : Sto, eqD (.int w) (.int 1) s = .ok (.bl true) s := fun s => by rw [eqD_int, decide_eq_true hc.1]
      have hc2 := hc.2
      unfold b__law_draw
      simp [-eqD_int, q0, qw, ha, ltD, h1, g0, g1, g2, g3, e1, e2, e3, e4, m1, m2, m3, m4, m5, s0, s1, s2, hs, hr, pw, geD, hc2]
    · refine key (v := r.fmod many) (x' := r.fdiv many) (y' := sd) (z' := w) (c' := c) ⟨?_, fin r⟩
      unfold b__law_draw
      by_cases hz : w = 1
      · have hc2 : ¬ 1000000000000000000 ≤ c := fun q => hc ⟨hz, q⟩
        have qw : ∀ s : Sto, eqD (.int w) (.int 1) s = .ok (.bl true) s := fun s => by rw [eqD_int, decide_eq_true hz]
        simp [-eqD_int, q0, qw, ha, ltD, h1, g0, g1, g2, g3, e1, e2, e3, e4, m1, m2, m3, m4, m5, s0, s1, s2, hs, hr, pw, geD, hc2]
      · have qw : ∀ s : Sto, eqD (.int w) (.int 1) s = .ok (.bl false) s := fun s => by rw [eqD_int, decide_eq_false hz]
        simp [-eqD_int, q0, qw, ha, ltD, h1, g0, g1, g2, g3, e1, e2, e3, e4, m1, m2, m3, m4, m5, s0, s1, s2, hs, hr, pw, geD]
  · refine key (v := x.fmod many) (x' := x.fdiv many) (y' := y) (z' := z) (c' := c) ⟨?_, fin x⟩
    unfold b__law_draw
    simp [ltD, h1, g0, g1, g2, hx, e1, e2, e3, e4, m1, m2, m3, m4, s0, s1]
theorem draw_pos {st : Sto} {b : Nat} {many : Int} (h : Bg b st) (h1 : 0 < many) (h2 : many ≤ 2 ^ 40) :
    ∃ v st', m__law_draw [.loc b, .int many] st = .ok (.int v) st' ∧ Kp b st st' ∧ 0 ≤ v ∧ v < many := by
  obtain ⟨v, st', e, k, q, _⟩ := draw_ok h h2
  exact ⟨v, st', e, k, (q h1).1, (q h1).2⟩
end PMl

set_option Elab.async false
set_option linter.all false
set_option maxRecDepth 100000
set_option maxHeartbeats 1000000
/-! the plain law of k95, 2: expressions, statements, what they touch. -/
namespace PMl
open PySem PM L2
inductive Ex where
  | val (v : Nat) | fld (k f : Nat) | cnt (t : Nat) | tick | num (n : Int) | not (e : Ex) | drw (e : Ex) | mov (e : Ex) (b : Nat) | past (k f : Nat) (e : Ex) | op (s : Str) (a b : Ex)
inductive Pl where
  | val (v : Nat) | fld (k f : Nat)
inductive St where
  | set (p : Pl) (e : Ex) | make (t : Nat) (es : List Ex) | drop (k : Nat) | tell (m : Nat) (e : Ex) | iff (e : Ex) (a b : List St)
/-- a place of the answer -/
inductive Plc where
  | val (v : Nat) | fld (t f : Nat) | thg (t : Nat)
  deriving DecidableEq
def Ex.D : Ex → D
  | .val v => .tup [.str "value", .int v]
  | .fld k f => .tup [.str "field", .int k, .int f]
  | .cnt t => .tup [.str "count", .int t]
  | .tick => .tup [.str "tick"]
  | .num n => .tup [.str "number", .int n]
  | .not e => .tup [.str "not", e.D]
  | .drw e => .tup [.str "draw", e.D]
  | .mov e b => .tup [.str "move", e.D, .int b]
  | .past k f e => .tup [.str "past", .int k, .int f, e.D]
  | .op s a b => .tup [.str "op", .str s, a.D, b.D]
def Pl.D : Pl → D
  | .val v => .tup [.str "value", .int v]
  | .fld k f => .tup [.str "field", .int k, .int f]
def Plc.D : Plc → D
  | .val v => .tup [.str "value", .int v]
  | .fld t f => .tup [.str "field", .int t, .int f]
  | .thg t => .tup [.str "things", .int t]
mutual
def St.D : St → D
  | .set p e => .tup [.str "set", p.D, e.D]
  | .make t es => .tup [.str "make", .int t, .tup (es.map Ex.D)]
  | .drop k => .tup [.str "drop", .int k]
  | .tell m e => .tup [.str "tell", .int m, e.D]
  | .iff e a b => .tup [.str "if", e.D, .tup (bodyD a), .tup (bodyD b)]
def bodyD : List St → List D
  | [] => []
  | s :: r => s.D :: bodyD r
end
theorem bodyD_map : ∀ b : List St, bodyD b = b.map St.D
  | [] => rfl
  | s :: r => by rw [bodyD, bodyD_map r, List.map_cons]
/-- the sizes of a world -/
structure Dims where
  (nk nv nt : Nat) (tabs : List Nat)
def signs : List Str := ["+", "-", "*", "/", "mod", "==", "!=", "<", "<=", ">", ">=", "and", "or"]
def FldOk (d : Dims) (es : List Nat) (k f : Nat) : Prop := ∃ t n, es[k]? = some t ∧ d.tabs[t]? = some n ∧ f < n
def Ex.ok (d : Dims) (es : List Nat) : Ex → Prop
  | .val v => v < d.nv
  | .fld k f => FldOk d es k f
  | .cnt t => t < d.tabs.length
  | .tick => True
  | .num n => 0 ≤ n ∧ n ≤ 2147483647
  | .not e => e.ok d es
  | .drw e => e.ok d es
  | .mov e b => e.ok d es ∧ b < d.nk
  | .past k f e => FldOk d es k f ∧ e.ok d es
  | .op s a b => s ∈ signs ∧ a.ok d es ∧ b.ok d es
def Pl.ok (d : Dims) (es : List Nat) : Pl → Prop
  | .val v => v < d.nv
  | .fld k f => FldOk d es k f
mutual
def St.ok (d : Dims) (es : List Nat) : St → Prop
  | .set p e => p.ok d es ∧ e.ok d es
  | .make t xs => (∃ n, d.tabs[t]? = some n ∧ xs.length = n) ∧ ∀ x ∈ xs, x.ok d es
  | .drop k => k < es.length
  | .tell m e => m < d.nt ∧ e.ok d es
  | .iff e a b => e.ok d es ∧ bodyOk d es a ∧ bodyOk d es b
def bodyOk (d : Dims) (es : List Nat) : List St → Prop
  | [] => True
  | s :: r => s.ok d es ∧ bodyOk d es r
end
theorem bodyOk_iff {d : Dims} {es : List Nat} : ∀ {b : List St}, bodyOk d es b ↔ ∀ s ∈ b, s.ok d es
  | [] => by simp [bodyOk]
  | s :: r => by simp [bodyOk, bodyOk_iff (b := r)]
def Ex.dep : Ex → Nat
  | .val _ => 1 | .fld _ _ => 1 | .cnt _ => 1 | .tick => 1 | .num _ => 1
  | .not e => e.dep + 1 | .drw e => e.dep + 1 | .mov e _ => e.dep + 1 | .past _ _ e => e.dep + 1
  | .op _ a b => max a.dep b.dep + 1
def maxDep : List Ex → Nat
  | [] => 0
  | e :: r => max e.dep (maxDep r)
mutual
def St.dep : St → Nat
  | .set _ e => e.dep + 1
  | .make _ es => maxDep es + 1
  | .drop _ => 1
  | .tell _ e => e.dep + 1
  | .iff e a b => max e.dep (max (bodyDep a) (bodyDep b)) + 1
def bodyDep : List St → Nat
  | [] => 0
  | s :: r => max s.dep (bodyDep r)
end
/-! what is touched -/
def fldP (es : List Nat) (k f : Nat) : Plc := .fld (es.getD k 0) f
def Ex.look (es : List Nat) : Ex → List Plc
  | .val v => [.val v]
  | .fld k f => [fldP es k f]
  | .cnt t => [.thg t]
  | .tick => [] | .num _ => []
  | .not e => e.look es | .drw e => e.look es | .mov e _ => e.look es
  | .past k f e => fldP es k f :: e.look es
  | .op _ a b => a.look es ++ b.look es
def Ex.draws : Ex → Bool
  | .val _ => false | .fld _ _ => false | .cnt _ => false | .tick => false | .num _ => false
  | .not e => e.draws | .drw _ => true | .mov e _ => e.draws
  | .past _ _ e => e.draws
  | .op _ a b => a.draws || b.draws
def Ex.knobs : Ex → List Nat
  | .val _ => [] | .fld _ _ => [] | .cnt _ => [] | .tick => [] | .num _ => []
  | .not e => e.knobs | .drw e => e.knobs | .mov e b => b :: e.knobs
  | .past _ _ e => e.knobs
  | .op _ a b => a.knobs ++ b.knobs
def Pl.plc (es : List Nat) : Pl → Plc
  | .val v => .val v
  | .fld k f => fldP es k f
def makeC (tabs : List Nat) (t : Nat) : List Plc := .thg t :: (List.range (tabs.getD t 0)).map (Plc.fld t)
mutual
def St.look (es : List Nat) : St → List Plc
  | .set _ e => e.look es
  | .make t xs => .thg t :: xs.flatMap (Ex.look es)
  | .drop _ => []
  | .tell _ e => e.look es
  | .iff e a b => e.look es ++ bodyLook es a ++ bodyLook es b
def bodyLook (es : List Nat) : List St → List Plc
  | [] => []
  | s :: r => s.look es ++ bodyLook es r
end
mutual
def St.chg (es tabs : List Nat) : St → List Plc
  | .set p _ => [p.plc es]
  | .make t _ => makeC tabs t
  | .drop k => [.thg (es.getD k 0)]
  | .tell _ _ => []
  | .iff _ a b => bodyChg es tabs a ++ bodyChg es tabs b
def bodyChg (es tabs : List Nat) : List St → List Plc
  | [] => []
  | s :: r => s.chg es tabs ++ bodyChg es tabs r
end
mutual
def St.draws : St → Bool
  | .set _ e => e.draws
  | .make _ xs => xs.any Ex.draws
  | .drop _ => false
  | .tell _ e => e.draws
  | .iff e a b => e.draws || bodyDraws a || bodyDraws b
def bodyDraws : List St → Bool
  | [] => false
  | s :: r => s.draws || bodyDraws r
end
mutual
def St.tells : St → Bool
  | .set _ _ => false
  | .make _ _ => false
  | .drop _ => false
  | .tell _ _ => true
  | .iff _ a b => bodyTells a || bodyTells b
def bodyTells : List St → Bool
  | [] => false
  | s :: r => s.tells || bodyTells r
end
mutual
def St.knobs : St → List Nat
  | .set _ e => e.knobs
  | .make _ xs => xs.flatMap Ex.knobs
  | .drop _ => []
  | .tell _ e => e.knobs
  | .iff e a b => e.knobs ++ bodyKnobs a ++ bodyKnobs b
def bodyKnobs : List St → List Nat
  | [] => []
  | s :: r => s.knobs ++ bodyKnobs r
end
theorem plc_inj {p q : Plc} (h : p.D = q.D) : p = q := by
  cases p <;> cases q <;> simp [Plc.D] at h ⊢ <;> first | omega | exact absurd h.1 (by decide +kernel) | exact absurd h (by decide +kernel)
theorem cl_plc (p : Plc) : cl p.D = true := by cases p <;> simp [Plc.D, cl, clAll] <;> decide +kernel
theorem dep_plc (p : Plc) : depD p.D ≤ 64 := by cases p <;> simp [Plc.D, depD, depAll]
theorem mem_plc {p : Plc} {l : List Plc} : p.D ∈ l.map Plc.D ↔ p ∈ l := by
  rw [List.mem_map]
  exact ⟨fun ⟨q, hq, e⟩ => plc_inj e ▸ hq, fun h => ⟨p, h, rfl⟩⟩
end PMl

set_option Elab.async false
set_option linter.all false
set_option maxRecDepth 100000
set_option maxHeartbeats 1000000
/-! the plain law of k95, 3: the object that is told. -/
namespace PMl
open PySem PM L2
def tF (w es l c : D) (d t : Bool) (k : D) : List (Str × D) := [("_world", w), ("_eaches", es), ("_looks", l), ("_changes", c), ("_draws", .bl d), ("_tells", .bl t), ("_knobs", k)]
section
variable (w es l c k : D) (d t b : Bool)
@[simp] theorem tl1 : (tF w es l c d t k).lookup ("_world" : Str) = some w := by kernel_rfl
@[simp] theorem tl2 : (tF w es l c d t k).lookup ("_eaches" : Str) = some es := by kernel_rfl
@[simp] theorem tl3 : (tF w es l c d t k).lookup ("_looks" : Str) = some l := by kernel_rfl
@[simp] theorem tl4 : (tF w es l c d t k).lookup ("_changes" : Str) = some c := by kernel_rfl
@[simp] theorem tl5 : (tF w es l c d t k).lookup ("_draws" : Str) = some (.bl d) := by kernel_rfl
@[simp] theorem tl6 : (tF w es l c d t k).lookup ("_tells" : Str) = some (.bl t) := by kernel_rfl
@[simp] theorem tl7 : (tF w es l c d t k).lookup ("_knobs" : Str) = some k := by kernel_rfl
@[simp] theorem tp5 : putFD "_draws" (.bl b) (tF w es l c d t k) = tF w es l c b t k := by kernel_rfl
@[simp] theorem tp6 : putFD "_tells" (.bl b) (tF w es l c d t k) = tF w es l c d b k := by kernel_rfl
@[simp] theorem tn1 : (tF w es l c d t k).lookup ("look" : Str) = none := by kernel_rfl
@[simp] theorem tn2 : (tF w es l c d t k).lookup ("change" : Str) = none := by kernel_rfl
@[simp] theorem tn3 : (tF w es l c d t k).lookup ("_field" : Str) = none := by kernel_rfl
@[simp] theorem tn4 : (tF w es l c d t k).lookup ("expression" : Str) = none := by kernel_rfl
@[simp] theorem tn5 : (tF w es l c d t k).lookup ("_one" : Str) = none := by kernel_rfl
@[simp] theorem tn6 : (tF w es l c d t k).lookup ("body" : Str) = none := by kernel_rfl
@[simp] theorem tn7 : (tF w es l c d t k).lookup ("_statement" : Str) = none := by kernel_rfl
@[simp] theorem tn8 : (tF w es l c d t k).lookup ("_make" : Str) = none := by kernel_rfl
@[simp] theorem tn9 : (tF w es l c d t k).lookup ("told" : Str) = none := by kernel_rfl
@[simp] theorem tfl : (tF w es l c d t k).length = 7 := rfl
end
def natD (n : Nat) : D := .int n
structure T where
  (looks changes : List Plc) (draws tells : Bool) (knobs : List Nat)
abbrev tObj (w : D) (es : List Nat) (l c k : Nat) (t : T) : O := .ins 0 (tF w (.tup (es.map natD)) (.loc l) (.loc c) t.draws t.tells (.loc k))
structure TAt (o l c k : Nat) (w : D) (es : List Nat) (st : Sto) (t : T) : Prop where
  ho : st[o]? = some (tObj w es l c k t)
  hl : st[l]? = some (.lst (t.looks.map Plc.D))
  hc : st[c]? = some (.lst (t.changes.map Plc.D))
  hk : st[k]? = some (.lst (t.knobs.map natD))
  n : o ≠ l ∧ o ≠ c ∧ o ≠ k ∧ l ≠ c ∧ l ≠ k ∧ c ≠ k
structure Tk (o l c k : Nat) (st st' : Sto) : Prop where
  le : st'.length = st.length
  eq : ∀ n, n ≠ o → n ≠ l → n ≠ c → n ≠ k → st'[n]? = st[n]?
section
variable {o l c k : Nat} {w : D} {es : List Nat} {st st' st'' : Sto} {t : T}
theorem Tk.refl : Tk o l c k st st := ⟨rfl, fun _ _ _ _ _ => rfl⟩
theorem Tk.trans (a : Tk o l c k st st') (b : Tk o l c k st' st'') : Tk o l c k st st'' := ⟨b.le.trans a.le, fun n h1 h2 h3 h4 => (b.eq n h1 h2 h3 h4).trans (a.eq n h1 h2 h3 h4)⟩
theorem TAt.lk (h : TAt o l c k w es st t) (ps : List Plc) : TAt o l c k w es (st.set l (.lst (ps.map Plc.D))) { t with looks := ps } :=
  ⟨by rw [get_set_ne h.n.1]; exact h.ho, get_set_eq h.hl, by rw [get_set_ne (Ne.symm h.n.2.2.2.1)]; exact h.hc, by rw [get_set_ne (Ne.symm h.n.2.2.2.2.1)]; exact h.hk, h.n⟩
theorem TAt.ch (h : TAt o l c k w es st t) (ps : List Plc) : TAt o l c k w es (st.set c (.lst (ps.map Plc.D))) { t with changes := ps } :=
  ⟨by rw [get_set_ne h.n.2.1]; exact h.ho, by rw [get_set_ne h.n.2.2.2.1]; exact h.hl, get_set_eq h.hc, by rw [get_set_ne (Ne.symm h.n.2.2.2.2.2)]; exact h.hk, h.n⟩
theorem TAt.kn (h : TAt o l c k w es st t) (ps : List Nat) : TAt o l c k w es (st.set k (.lst (ps.map natD))) { t with knobs := ps } :=
  ⟨by rw [get_set_ne h.n.2.2.1]; exact h.ho, by rw [get_set_ne h.n.2.2.2.2.1]; exact h.hl, by rw [get_set_ne h.n.2.2.2.2.2]; exact h.hc, get_set_eq h.hk, h.n⟩
theorem TAt.ob (h : TAt o l c k w es st t) (d e : Bool) : TAt o l c k w es (st.set o (tObj w es l c k { t with draws := d, tells := e })) { t with draws := d, tells := e } :=
  ⟨get_set_eq h.ho, by rw [get_set_ne (Ne.symm h.n.1)]; exact h.hl, by rw [get_set_ne (Ne.symm h.n.2.1)]; exact h.hc, by rw [get_set_ne (Ne.symm h.n.2.2.1)]; exact h.hk, h.n⟩
theorem Tk.set {n : Nat} {x : O} (h : n = o ∨ n = l ∨ n = c ∨ n = k) : Tk o l c k st (st.set n x) := ⟨by simp, fun m h1 h2 h3 h4 => get_set_ne (by rcases h with h | h | h | h <;> subst h <;> assumption)⟩
open Classical
def addN (xs : List Plc) (p : Plc) : List Plc := if p ∈ xs then xs else xs ++ [p]
def addAll (xs ps : List Plc) : List Plc := ps.foldl addN xs
def addK (xs : List Nat) (p : Nat) : List Nat := if p ∈ xs then xs else xs ++ [p]
def addKs (xs ps : List Nat) : List Nat := ps.foldl addK xs
theorem sz16 : (16000000 : Nat) ≤ sizeLine := by decide
theorem clP (ps : List Plc) : clAll (ps.map Plc.D) = true := clAll_map cl_plc
theorem clN (ps : List Nat) : clAll (ps.map natD) = true := clAll_map fun _ => rfl
theorem fldT {f : Str} {v : D} (h : TAt o l c k w es st t) (e : (tF w (.tup (es.map natD)) (.loc l) (.loc c) t.draws t.tells (.loc k)).lookup f = some v) : fldOf [0] f (.loc o) st = .ok v st := by
  simp [fldOf, h.ho, e]
theorem lstD_at {n : Nat} {xs : List D} (h : st[n]? = some (.lst xs)) : lstD (.loc n) st = .ok xs st := by simp [lstD, h]
theorem appD_at {n : Nat} {xs : List D} {y : D} (h : st[n]? = some (.lst xs)) (hz : xs.length < 16000000) : appD (.loc n) [y] st = .ok .non (st.set n (.lst (xs ++ [y]))) := by
  simp only [appD, h]
  rw [if_pos (Nat.lt_of_lt_of_le hz sz16)]
theorem look_ok (h : TAt o l c k w es st t) (hz : t.looks.length < 16000000) (p : Plc) :
    ∃ st', m_Touch_look [.loc o, p.D] st = .ok .non st' ∧ TAt o l c k w es st' { t with looks := addN t.looks p } ∧ Tk o l c k st st' := by
  have f := fldT h (tl3 _ _ _ _ _ _ _)
  have ni := notInD_lst h.hl (cl_plc p) (dep_plc p) (clP _)
  have key : ∀ {st'}, b_Touch_look [some (.loc o), some p.D] st = .nx [some (.loc o), some p.D] st' → st'.length = st.length → m_Touch_look [.loc o, p.D] st = .ok .non st' := fun e hl => by
    show gcR st (outR (b_Touch_look [some (.loc o), some p.D] st)) = _
    rw [e]
    exact gcR_same hl
  by_cases hp : p ∈ t.looks
  · refine ⟨st, key ?_ rfl, ?_, Tk.refl⟩
    · unfold b_Touch_look
      simp [f, ni, mem_plc, hp]
    · rw [addN, if_pos hp]; exact h
  · have ha := appD_at (y := p.D) h.hl (by simpa using hz)
    refine ⟨_, key (st' := st.set l (.lst ((t.looks ++ [p]).map Plc.D))) ?_ (by simp), ?_, Tk.set (.inr (.inl rfl))⟩
    · unfold b_Touch_look
      simp [f, ni, mem_plc, hp, lstD_at h.hl, ha]
    · rw [addN, if_neg hp]; exact h.lk _
theorem change_ok (h : TAt o l c k w es st t) (hz : t.changes.length < 16000000) (p : Plc) :
    ∃ st', m_Touch_change [.loc o, p.D] st = .ok .non st' ∧ TAt o l c k w es st' { t with changes := addN t.changes p } ∧ Tk o l c k st st' := by
  have f := fldT h (tl4 _ _ _ _ _ _ _)
  have ni := notInD_lst h.hc (cl_plc p) (dep_plc p) (clP _)
  have key : ∀ {st'}, b_Touch_change [some (.loc o), some p.D] st = .nx [some (.loc o), some p.D] st' → st'.length = st.length → m_Touch_change [.loc o, p.D] st = .ok .non st' := fun e hl => by
    show gcR st (outR (b_Touch_change [some (.loc o), some p.D] st)) = _
    rw [e]
    exact gcR_same hl
  by_cases hp : p ∈ t.changes
  · refine ⟨st, key ?_ rfl, ?_, Tk.refl⟩
    · unfold b_Touch_change
      simp [f, ni, mem_plc, hp]
    · rw [addN, if_pos hp]; exact h
  · have ha := appD_at (y := p.D) h.hc (by simpa using hz)
    refine ⟨_, key (st' := st.set c (.lst ((t.changes ++ [p]).map Plc.D))) ?_ (by simp), ?_, Tk.set (.inr (.inr (.inl rfl)))⟩
    · unfold b_Touch_change
      simp [f, ni, mem_plc, hp, lstD_at h.hc, ha]
    · rw [addN, if_neg hp]; exact h.ch _
theorem field_ok (h : TAt o l c k w es st t) {i f : Nat} (hi : i < es.length) : m_Touch__field [.loc o, .int i, .int f] st = .ok (fldP es i f).D st := by
  have f1 := fldT h (tl2 _ _ _ _ _ _ _)
  have hx : (es.map natD)[i]? = some (natD (es.getD i 0)) := by
    rw [List.getElem?_map, List.getElem?_eq_getElem hi]
    simp [List.getD_eq_getElem?_getD, List.getElem?_eq_getElem hi]
  have e : b_Touch__field [some (.loc o), some (.int i), some (.int f)] st = .rt (fldP es i f).D st := by
    unfold b_Touch__field
    simp [f1, atD_nat st hx, fldP, Plc.D, natD]
  show gcR st (outR (b_Touch__field [some (.loc o), some (.int i), some (.int f)] st)) = _
  rw [e]
  exact gcR_id
end
end PMl

set_option Elab.async false
set_option linter.all false
set_option maxRecDepth 100000
set_option maxHeartbeats 1000000
/-! the plain law of k95, 4: expressions are looked at. -/
namespace PMl
open PySem PM L2
theorem def_nx {n : Nat} {s : S} {ds : List D} {ρ0 ρ : PM.Env} {st st' : Sto} (h0 : ds.map some ++ List.replicate (n - ds.length) none = ρ0) (h : s ρ0 st = .nx ρ st') (hl : st'.length = st.length) : mDef n s ds st = .ok .non st' := by
  show gcR st (outR (s (ds.map some ++ List.replicate (n - ds.length) none) st)) = _
  rw [h0, h]
  exact gcR_same hl
theorem def_rt {n : Nat} {s : S} {ds : List D} {ρ0 : PM.Env} {st st' : Sto} {d : D} (h0 : ds.map some ++ List.replicate (n - ds.length) none = ρ0) (h : s ρ0 st = .rt d st') (hl : st'.length = st.length) : mDef n s ds st = .ok d st' := by
  show gcR st (outR (s (ds.map some ++ List.replicate (n - ds.length) none) st)) = _
  rw [h0, h]
  exact gcR_same hl
def Ex.size : Ex → Nat
  | .val _ => 1 | .fld _ _ => 1 | .cnt _ => 1 | .tick => 1 | .num _ => 1
  | .not e => e.size + 1 | .drw e => e.size + 1 | .mov e _ => e.size + 1 | .past _ _ e => e.size + 1
  | .op _ a b => a.size + b.size + 1
def touchE (es : List Nat) (e : Ex) (t : T) : T := { t with looks := addAll t.looks (e.look es), draws := t.draws || e.draws, knobs := addKs t.knobs e.knobs }
section
open Classical
theorem addN_len (xs : List Plc) (p : Plc) : (addN xs p).length ≤ xs.length + 1 := by unfold addN; split <;> simp
theorem addAll_len : ∀ (ps xs : List Plc), (addAll xs ps).length ≤ xs.length + ps.length
  | [], xs => by simp [addAll]
  | p :: ps, xs => by
    have h1 := addAll_len ps (addN xs p)
    have h2 := addN_len xs p
    show (addAll (addN xs p) ps).length ≤ _
    rw [List.length_cons]
    omega
theorem addK_len (xs : List Nat) (p : Nat) : (addK xs p).length ≤ xs.length + 1 := by unfold addK; split <;> simp
theorem addKs_len : ∀ (ps xs : List Nat), (addKs xs ps).length ≤ xs.length + ps.length
  | [], xs => by simp [addKs]
  | p :: ps, xs => by
    have h1 := addKs_len ps (addK xs p)
    have h2 := addK_len xs p
    show (addKs (addK xs p) ps).length ≤ _
    rw [List.length_cons]
    omega
theorem addAll_app (xs ps qs : List Plc) : addAll xs (ps ++ qs) = addAll (addAll xs ps) qs := List.foldl_append
theorem addKs_app (xs ps qs : List Nat) : addKs xs (ps ++ qs) = addKs (addKs xs ps) qs := List.foldl_append
theorem look_size (es : List Nat) : ∀ e : Ex, (e.look es).length ≤ e.size
  | .val _ => by simp [Ex.look, Ex.size]
  | .fld _ _ => by simp [Ex.look, Ex.size]
  | .cnt _ => by simp [Ex.look, Ex.size]
  | .tick => by simp [Ex.look, Ex.size]
  | .num _ => by simp [Ex.look, Ex.size]
  | .not e => by have := look_size es e; simp [Ex.look, Ex.size]; omega
  | .drw e => by have := look_size es e; simp [Ex.look, Ex.size]; omega
  | .mov e _ => by have := look_size es e; simp [Ex.look, Ex.size]; omega
  | .past _ _ e => by have := look_size es e; simp [Ex.look, Ex.size]; omega
  | .op _ a b => by have := look_size es a; have := look_size es b; simp [Ex.look, Ex.size]; omega
theorem knobs_size : ∀ e : Ex, e.knobs.length ≤ e.size
  | .val _ => by simp [Ex.knobs, Ex.size]
  | .fld _ _ => by simp [Ex.knobs, Ex.size]
  | .cnt _ => by simp [Ex.knobs, Ex.size]
  | .tick => by simp [Ex.knobs, Ex.size]
  | .num _ => by simp [Ex.knobs, Ex.size]
  | .not e => by have := knobs_size e; simp [Ex.knobs, Ex.size]; omega
  | .drw e => by have := knobs_size e; simp [Ex.knobs, Ex.size]; omega
  | .mov e _ => by have := knobs_size e; simp [Ex.knobs, Ex.size]; omega
  | .past _ _ e => by have := knobs_size e; simp [Ex.knobs, Ex.size]; omega
  | .op _ a b => by have := knobs_size a; have := knobs_size b; simp [Ex.knobs, Ex.size]; omega
end
theorem FldOk.lt {d : Dims} {es : List Nat} {k f : Nat} (h : FldOk d es k f) : k < es.length := by
  obtain ⟨t, n, h, _⟩ := h
  exact (List.getElem?_eq_some_iff.mp h).1
section
open Classical
variable {o l c k : Nat} {w : D} {es : List Nat} {d : Dims}
abbrev Did (o l c k : Nat) (w : D) (es : List Nat) (r : R D) (st : Sto) (t : T) : Prop := ∃ st', r = .ok .non st' ∧ TAt o l c k w es st' t ∧ Tk o l c k st st'
theorem one_ok {e : Ex} {m : Nat → M} (he : e.draws = e.draws) : True := trivial
def Sub (o l c k : Nat) (w : D) (es : List Nat) (n : Nat) (e : Ex) : Prop := ∀ (st : Sto) (t : T), TAt o l c k w es st t → t.looks.length + e.size ≤ 16000000 → t.knobs.length + e.size ≤ 16000000 → Did o l c k w es (r_Touch_expression n 0 [.loc o, e.D] st) st (touchE es e t)
theorem sub_not {n : Nat} {e : Ex} (ih : Sub o l c k w es n e) : Sub o l c k w es (n + 2) (.not e) := by
  intro st t h h1 h2
  simp only [Ex.size] at h1 h2
  obtain ⟨st1, e1, t1, k1⟩ := ih st t h (by omega) (by omega)
  have e2 : r_Touch_expression (n + 1) 1 [.loc o, .tup [.str "not", e.D]] st = .ok .non st1 := by
    show mDef 2 (b_Touch__one (r_Touch_expression n)) _ _ = _
    refine def_nx (ρ := [some (.loc o), some (.tup [.str "not", e.D])]) rfl ?_ k1.le
    unfold b_Touch__one
    simp [-List.lookup_eq_none_iff, h.ho, e1]
  refine ⟨st1, ?_, t1, k1⟩
  show mDef 3 (b_Touch_expression (r_Touch_expression (n + 1))) _ _ = _
  refine def_nx (ρ := [some (.loc o), some (.tup [.str "not", e.D]), some (.str "not")]) rfl ?_ k1.le
  unfold b_Touch_expression
  have q := inD_tup (x := .str "not") (xs := [.str "draw", .str "move", .str "not"]) (st := st) (by decide +kernel) (by decide) (by decide +kernel)
  simp [-List.lookup_eq_none_iff, Ex.D, h.ho, e2, q]
theorem sub_drw {n : Nat} {e : Ex} (ih : Sub o l c k w es n e) : Sub o l c k w es (n + 2) (.drw e) := by
  intro st t h h1 h2
  simp only [Ex.size] at h1 h2
  have hb := h.ob true t.tells
  obtain ⟨st1, e1, t1, k1⟩ := ih _ _ hb (by simp only; omega) (by simp only; omega)
  have kk : Tk o l c k st st1 := (Tk.set (.inl rfl)).trans k1
  have e2 : r_Touch_expression (n + 1) 1 [.loc o, .tup [.str "draw", e.D]] st = .ok .non st1 := by
    show mDef 2 (b_Touch__one (r_Touch_expression n)) _ _ = _
    refine def_nx (ρ := [some (.loc o), some (.tup [.str "draw", e.D])]) rfl ?_ kk.le
    unfold b_Touch__one
    simp [-List.lookup_eq_none_iff, h.ho, get_set_eq h.ho, e1]
  refine ⟨st1, ?_, ?_, kk⟩
  · show mDef 3 (b_Touch_expression (r_Touch_expression (n + 1))) _ _ = _
    refine def_nx (ρ := [some (.loc o), some (.tup [.str "draw", e.D]), some (.str "draw")]) rfl ?_ kk.le
    unfold b_Touch_expression
    have q := inD_tup (x := .str "draw") (xs := [.str "draw", .str "move", .str "not"]) (st := st) (by decide +kernel) (by decide) (by decide +kernel)
    simp [-List.lookup_eq_none_iff, Ex.D, h.ho, e2, q]
  · have : touchE es (.drw e) t = touchE es e { t with draws := true } := by simp [touchE, Ex.look, Ex.draws, Ex.knobs]
    rw [this]; exact t1
theorem sub_mov {n : Nat} {e : Ex} {b : Nat} (ih : Sub o l c k w es n e) : Sub o l c k w es (n + 2) (.mov e b) := by
  intro st t h h1 h2
  simp only [Ex.size] at h1 h2
  have hk := addK_len t.knobs b
  have q := inD_tup (x := .str "move") (xs := [.str "draw", .str "move", .str "not"]) (st := st) (by decide +kernel) (by decide) (by decide +kernel)
  have f := fldT h (tl7 _ _ _ _ _ _ _)
  have ni := notInD_lst h.hk (x := .int b) rfl (by simp [depD]) (clN _)
  have mm : (D.int (b : Int) ∈ t.knobs.map natD) ↔ b ∈ t.knobs := by
    rw [List.mem_map]
    exact ⟨fun ⟨x, hx, e⟩ => by
      have : x = b := by
        have e : (x : Int) = b := D.int.inj e
        omega
      exact this ▸ hx, fun hx => ⟨b, hx, rfl⟩⟩
  have et : touchE es (.mov e b) t = touchE es e { t with knobs := addK t.knobs b } := by simp [touchE, Ex.look, Ex.draws, Ex.knobs, addKs]
  rw [et]
  by_cases hb : b ∈ t.knobs
  · have e0 : addK t.knobs b = t.knobs := by rw [addK, if_pos hb]
    rw [e0]
    obtain ⟨st1, e1, t1, k1⟩ := ih st t h (by omega) (by omega)
    have e2 : r_Touch_expression (n + 1) 1 [.loc o, .tup [.str "move", e.D, .int b]] st = .ok .non st1 := by
      show mDef 2 (b_Touch__one (r_Touch_expression n)) _ _ = _
      refine def_nx (ρ := [some (.loc o), some (.tup [.str "move", e.D, .int b])]) rfl ?_ k1.le
      unfold b_Touch__one
      simp [-List.lookup_eq_none_iff, h.ho, f, ni, mm, hb, e1]
    refine ⟨st1, ?_, t1, k1⟩
    show mDef 3 (b_Touch_expression (r_Touch_expression (n + 1))) _ _ = _
    refine def_nx (ρ := [some (.loc o), some (.tup [.str "move", e.D, .int b]), some (.str "move")]) rfl ?_ k1.le
    unfold b_Touch_expression
    simp [-List.lookup_eq_none_iff, Ex.D, h.ho, e2, q]
  · have e0 : addK t.knobs b = t.knobs ++ [b] := by rw [addK, if_neg hb]
    have hkn := h.kn (t.knobs ++ [b])
    have ha := appD_at (y := .int b) h.hk (by simp; omega)
    have ha : appD (.loc k) [.int b] st = .ok .non (st.set k (.lst ((t.knobs ++ [b]).map natD))) := by rw [ha]; simp [natD]
    obtain ⟨st1, e1, t1, k1⟩ := ih _ _ hkn (by simp only; omega) (by simp only [List.length_append, List.length_singleton]; omega)
    have kk : Tk o l c k st st1 := (Tk.set (.inr (.inr (.inr rfl)))).trans k1
    have e2 : r_Touch_expression (n + 1) 1 [.loc o, .tup [.str "move", e.D, .int b]] st = .ok .non st1 := by
      show mDef 2 (b_Touch__one (r_Touch_expression n)) _ _ = _
      refine def_nx (ρ := [some (.loc o), some (.tup [.str "move", e.D, .int b])]) rfl ?_ kk.le
      unfold b_Touch__one
      simp [-List.lookup_eq_none_iff, -List.map_append, h.ho, f, ni, mm, hb, lstD_at h.hk, ha, hkn.ho, e1]
    rw [e0]
    refine ⟨st1, ?_, t1, kk⟩
    show mDef 3 (b_Touch_expression (r_Touch_expression (n + 1))) _ _ = _
    refine def_nx (ρ := [some (.loc o), some (.tup [.str "move", e.D, .int b]), some (.str "move")]) rfl ?_ kk.le
    unfold b_Touch_expression
    simp [-List.lookup_eq_none_iff, Ex.D, h.ho, e2, q]
theorem sub_val {n v : Nat} : Sub o l c k w es (n + 1) (.val v) := by
  intro st t h h1 h2
  simp only [Ex.size] at h1 h2
  obtain ⟨st1, e1, t1, k1⟩ := look_ok h (by omega) (.val v)
  refine ⟨st1, ?_, ?_, k1⟩
  · show mDef 3 (b_Touch_expression (r_Touch_expression n)) _ _ = _
    refine def_nx (ρ := [some (.loc o), some (Ex.val v).D, some (.str "value")]) rfl ?_ k1.le
    unfold b_Touch_expression
    simp only [Plc.D] at e1
    simp [-List.lookup_eq_none_iff, Ex.D, h.ho, e1]
  · simpa [touchE, Ex.look, Ex.draws, Ex.knobs, addAll, addKs] using t1
theorem sub_fld {n i f : Nat} (hi : i < es.length) : Sub o l c k w es (n + 1) (.fld i f) := by
  intro st t h h1 h2
  simp only [Ex.size] at h1 h2
  obtain ⟨st1, e1, t1, k1⟩ := look_ok h (by omega) (fldP es i f)
  refine ⟨st1, ?_, ?_, k1⟩
  · show mDef 3 (b_Touch_expression (r_Touch_expression n)) _ _ = _
    refine def_nx (ρ := [some (.loc o), some (Ex.fld i f).D, some (.str "field")]) rfl ?_ k1.le
    unfold b_Touch_expression
    simp [-List.lookup_eq_none_iff, Ex.D, h.ho, field_ok h hi, e1]
  · simpa [touchE, Ex.look, Ex.draws, Ex.knobs, addAll, addKs] using t1
theorem sub_cnt {n i : Nat} : Sub o l c k w es (n + 1) (.cnt i) := by
  intro st t h h1 h2
  simp only [Ex.size] at h1 h2
  obtain ⟨st1, e1, t1, k1⟩ := look_ok h (by omega) (.thg i)
  refine ⟨st1, ?_, ?_, k1⟩
  · show mDef 3 (b_Touch_expression (r_Touch_expression n)) _ _ = _
    refine def_nx (ρ := [some (.loc o), some (Ex.cnt i).D, some (.str "count")]) rfl ?_ k1.le
    unfold b_Touch_expression
    simp only [Plc.D] at e1
    simp [-List.lookup_eq_none_iff, Ex.D, h.ho, e1]
  · simpa [touchE, Ex.look, Ex.draws, Ex.knobs, addAll, addKs] using t1
theorem sub_past {n i f : Nat} {e : Ex} (hi : i < es.length) (ih : Sub o l c k w es n e) : Sub o l c k w es (n + 1) (.past i f e) := by
  intro st t h h1 h2
  simp only [Ex.size] at h1 h2
  obtain ⟨st1, e1, t1, k1⟩ := look_ok h (by omega) (fldP es i f)
  have := addN_len t.looks (fldP es i f)
  obtain ⟨st2, e2, t2, k2⟩ := ih st1 _ t1 (by simp only; omega) (by simp only; omega)
  refine ⟨st2, ?_, ?_, k1.trans k2⟩
  · show mDef 3 (b_Touch_expression (r_Touch_expression n)) _ _ = _
    refine def_nx (ρ := [some (.loc o), some (Ex.past i f e).D, some (.str "past")]) rfl ?_ (k1.trans k2).le
    unfold b_Touch_expression
    simp [-List.lookup_eq_none_iff, Ex.D, h.ho, field_ok h hi, e1, t1.ho, e2]
  · simpa [touchE, Ex.look, Ex.draws, Ex.knobs, addAll, addKs] using t2
theorem sub_op {n : Nat} {s : Str} {a b : Ex} (iha : Sub o l c k w es n a) (ihb : Sub o l c k w es n b) : Sub o l c k w es (n + 1) (.op s a b) := by
  intro st t h h1 h2
  simp only [Ex.size] at h1 h2
  obtain ⟨st1, e1, t1, k1⟩ := iha st t h (by omega) (by omega)
  have g1 := addAll_len (a.look es) t.looks
  have g2 := look_size es a
  have g3 := addKs_len a.knobs t.knobs
  have g4 := knobs_size a
  obtain ⟨st2, e2, t2, k2⟩ := ihb st1 _ t1 (by simp only [touchE]; omega) (by simp only [touchE]; omega)
  refine ⟨st2, ?_, ?_, k1.trans k2⟩
  · show mDef 3 (b_Touch_expression (r_Touch_expression n)) _ _ = _
    refine def_nx (ρ := [some (.loc o), some (Ex.op s a b).D, some (.str "op")]) rfl ?_ (k1.trans k2).le
    unfold b_Touch_expression
    simp [-List.lookup_eq_none_iff, Ex.D, h.ho, e1, t1.ho, e2]
  · simpa [touchE, Ex.look, Ex.draws, Ex.knobs, addAll_app, addKs_app, Bool.or_assoc] using t2
theorem sub_tick {n : Nat} : Sub o l c k w es (n + 1) .tick := by
  intro st t h h1 h2
  have q := inD_tup (x := .str "tick") (xs := [.str "draw", .str "move", .str "not"]) (st := st) (by decide +kernel) (by decide) (by decide +kernel)
  refine ⟨st, ?_, ?_, Tk.refl⟩
  · show mDef 3 (b_Touch_expression (r_Touch_expression n)) _ _ = _
    refine def_nx (ρ := [some (.loc o), some (Ex.tick).D, some (.str "tick")]) rfl ?_ rfl
    unfold b_Touch_expression
    simp [-List.lookup_eq_none_iff, Ex.D, h.ho, q]
  · simpa [touchE, Ex.look, Ex.draws, Ex.knobs, addAll, addKs] using h
theorem sub_num {n : Nat} {i : Int} : Sub o l c k w es (n + 1) (.num i) := by
  intro st t h h1 h2
  have q := inD_tup (x := .str "number") (xs := [.str "draw", .str "move", .str "not"]) (st := st) (by decide +kernel) (by decide) (by decide +kernel)
  refine ⟨st, ?_, ?_, Tk.refl⟩
  · show mDef 3 (b_Touch_expression (r_Touch_expression n)) _ _ = _
    refine def_nx (ρ := [some (.loc o), some (Ex.num i).D, some (.str "number")]) rfl ?_ rfl
    unfold b_Touch_expression
    simp [-List.lookup_eq_none_iff, Ex.D, h.ho, q]
  · simpa [touchE, Ex.look, Ex.draws, Ex.knobs, addAll, addKs] using h
theorem expr_ok : ∀ (e : Ex) (n : Nat), 2 * e.dep ≤ n → e.ok d es → Sub o l c k w es n e
  | .val v, n, h, _ => by obtain ⟨m, rfl⟩ : ∃ m, n = m + 1 := ⟨n - 1, by simp [Ex.dep] at h; omega⟩; exact sub_val
  | .fld i f, n, h, q => by obtain ⟨m, rfl⟩ : ∃ m, n = m + 1 := ⟨n - 1, by simp [Ex.dep] at h; omega⟩; exact sub_fld (FldOk.lt q)
  | .cnt i, n, h, _ => by obtain ⟨m, rfl⟩ : ∃ m, n = m + 1 := ⟨n - 1, by simp [Ex.dep] at h; omega⟩; exact sub_cnt
  | .tick, n, h, _ => by obtain ⟨m, rfl⟩ : ∃ m, n = m + 1 := ⟨n - 1, by simp [Ex.dep] at h; omega⟩; exact sub_tick
  | .num i, n, h, _ => by obtain ⟨m, rfl⟩ : ∃ m, n = m + 1 := ⟨n - 1, by simp [Ex.dep] at h; omega⟩; exact sub_num
  | .not e, n, h, q => by obtain ⟨m, rfl⟩ : ∃ m, n = m + 2 := ⟨n - 2, by simp [Ex.dep] at h; omega⟩; exact sub_not (expr_ok e m (by simp [Ex.dep] at h; omega) q)
  | .drw e, n, h, q => by obtain ⟨m, rfl⟩ : ∃ m, n = m + 2 := ⟨n - 2, by simp [Ex.dep] at h; omega⟩; exact sub_drw (expr_ok e m (by simp [Ex.dep] at h; omega) q)
  | .mov e b, n, h, q => by obtain ⟨m, rfl⟩ : ∃ m, n = m + 2 := ⟨n - 2, by simp [Ex.dep] at h; omega⟩; exact sub_mov (expr_ok e m (by simp [Ex.dep] at h; omega) q.1)
  | .past i f e, n, h, q => by obtain ⟨m, rfl⟩ : ∃ m, n = m + 1 := ⟨n - 1, by simp [Ex.dep] at h; omega⟩; exact sub_past (FldOk.lt q.1) (expr_ok e m (by simp [Ex.dep] at h; omega) q.2)
  | .op s a b, n, h, q => by obtain ⟨m, rfl⟩ : ∃ m, n = m + 1 := ⟨n - 1, by simp [Ex.dep] at h; omega⟩; exact sub_op (expr_ok a m (by simp [Ex.dep] at h; omega) q.2.1) (expr_ok b m (by simp [Ex.dep] at h; omega) q.2.2)
end
end PMl

set_option Elab.async false
set_option linter.all false
set_option maxRecDepth 100000
set_option maxHeartbeats 1000000
/-! the plain law of k95, 5: statements are looked at. -/
namespace PMl
open PySem PM L2
def sizes : List Ex → Nat
  | [] => 0
  | e :: r => e.size + sizes r
mutual
def St.size : St → Nat
  | .set _ e => e.size + 2
  | .make _ es => sizes es + 1
  | .drop _ => 1
  | .tell _ e => e.size + 1
  | .iff e a b => e.size + bodySize a + bodySize b + 1
def bodySize : List St → Nat
  | [] => 0
  | s :: r => s.size + bodySize r
end
theorem size_pos (e : Ex) : 1 ≤ e.size := by cases e <;> simp [Ex.size]
theorem sizes_len : ∀ es : List Ex, es.length ≤ sizes es
  | [] => by simp [sizes]
  | e :: r => by have := sizes_len r; have := size_pos e; simp [sizes]; omega
theorem looks_sizes (es : List Nat) : ∀ xs : List Ex, (xs.flatMap (Ex.look es)).length ≤ sizes xs
  | [] => by simp [sizes]
  | e :: r => by
    have := looks_sizes es r; have := look_size es e
    rw [List.flatMap_cons, List.length_append, sizes]; omega
theorem knobs_sizes : ∀ xs : List Ex, (xs.flatMap Ex.knobs).length ≤ sizes xs
  | [] => by simp [sizes]
  | e :: r => by
    have := knobs_sizes r; have := knobs_size e
    rw [List.flatMap_cons, List.length_append, sizes]; omega
mutual
theorem St.look_size (es : List Nat) : ∀ s : St, (s.look es).length ≤ s.size
  | .set _ e => by have := PMl.look_size es e; simp [St.look, St.size]; omega
  | .make _ xs => by have := looks_sizes es xs; simp only [St.look, St.size, List.length_cons]; omega
  | .drop _ => by simp [St.look]
  | .tell _ e => by have := PMl.look_size es e; simp [St.look, St.size]; omega
  | .iff e a b => by
    have := PMl.look_size es e; have := bodyLook_size es a; have := bodyLook_size es b
    simp [St.look, St.size]; omega
theorem bodyLook_size (es : List Nat) : ∀ b : List St, (bodyLook es b).length ≤ bodySize b
  | [] => by simp [bodyLook]
  | s :: r => by have := St.look_size es s; have := bodyLook_size es r; simp [bodyLook, bodySize]; omega
end
mutual
theorem St.knobs_size : ∀ s : St, s.knobs.length ≤ s.size
  | .set _ e => by have := PMl.knobs_size e; simp [St.knobs, St.size]; omega
  | .make _ xs => by have := knobs_sizes xs; simp only [St.knobs, St.size]; omega
  | .drop _ => by simp [St.knobs]
  | .tell _ e => by have := PMl.knobs_size e; simp [St.knobs, St.size]; omega
  | .iff e a b => by
    have := PMl.knobs_size e; have := bodyKnobs_size a; have := bodyKnobs_size b
    simp [St.knobs, St.size]; omega
theorem bodyKnobs_size : ∀ b : List St, (bodyKnobs b).length ≤ bodySize b
  | [] => by simp [bodyKnobs]
  | s :: r => by have := St.knobs_size s; have := bodyKnobs_size r; simp [bodyKnobs, bodySize]; omega
end
mutual
theorem St.chg_size {d : Dims} {es : List Nat} : ∀ s : St, s.ok d es → (s.chg es d.tabs).length ≤ s.size
  | .set _ e, _ => by simp [St.chg, St.size]
  | .make t xs, h => by
    simp only [St.ok] at h
    obtain ⟨⟨n, h1, h2⟩, _⟩ := h
    have := sizes_len xs
    simp [St.chg, makeC, St.size, h1]; omega
  | .drop _, _ => by simp [St.chg, St.size]
  | .tell _ e, _ => by simp [St.chg, St.size]
  | .iff e a b, h => by
    simp only [St.ok] at h
    have := bodyChg_size a h.2.1; have := bodyChg_size b h.2.2
    simp [St.chg, St.size]; omega
theorem bodyChg_size {d : Dims} {es : List Nat} : ∀ b : List St, bodyOk d es b → (bodyChg es d.tabs b).length ≤ bodySize b
  | [], _ => by simp [bodyChg]
  | s :: r, h => by
    simp only [bodyOk] at h
    have := St.chg_size s h.1; have := bodyChg_size r h.2; simp [bodyChg, bodySize]; omega
end
/-! the world's form -/
structure TabsAt (ts : List D) (tabs : List Nat) : Prop where
  len : ts.length = tabs.length
  at_ : ∀ (i n : Nat), tabs[i]? = some n → n ≤ 1000 ∧ ∃ (a b c : D) (fs : List D), ts[i]? = some (D.tup [a, b, c, D.tup fs]) ∧ fs.length = n
structure WAt (w : D) (d : Dims) : Prop where
  form : ∃ (x0 x1 x2 : D) (ks vs ts tl r : List D), w = .tup (x0 :: x1 :: x2 :: .tup ks :: .tup vs :: .tup ts :: .tup tl :: r) ∧ ks.length = d.nk ∧ vs.length = d.nv ∧ tl.length = d.nt ∧ TabsAt ts d.tabs
  sm : d.nk ≤ 1000 ∧ d.nv ≤ 1000 ∧ d.nt ≤ 1000 ∧ d.tabs.length ≤ 1000
def touchS (es tabs : List Nat) (s : St) (t : T) : T := { looks := addAll t.looks (s.look es), changes := addAll t.changes (s.chg es tabs), draws := t.draws || s.draws, tells := t.tells || s.tells, knobs := addKs t.knobs s.knobs }
def touchB (es tabs : List Nat) (b : List St) (t : T) : T := { looks := addAll t.looks (bodyLook es b), changes := addAll t.changes (bodyChg es tabs b), draws := t.draws || bodyDraws b, tells := t.tells || bodyTells b, knobs := addKs t.knobs (bodyKnobs b) }
def Bud (t : T) (n : Nat) : Prop := t.looks.length + n ≤ 16000000 ∧ t.changes.length + n ≤ 16000000 ∧ t.knobs.length + n ≤ 16000000
section
open Classical
variable {o l c k : Nat} {w : D} {es : List Nat} {d : Dims}
theorem each_change {q : Nat} {x1 x2 : D} {x4 : Option D} : ∀ (n a : Nat) (st : Sto) (t : T) (x : Option D), TAt o l c k w es st t → t.changes.length + n ≤ 16000000 →
    ∃ st' x', forGo (fun _ => True) (gN 3) (sExp (cMeth 0 "change" m_Touch_change (cVar 0) [(cTup [(cC (.str "field")), (cVar 1), (cVar 3)])])) (rngD (a : Int) n) [some (.loc o), some (.int (q : Int)), some x2, x, x4] st = .nx [some (.loc o), some (.int (q : Int)), some x2, x', x4] st'
      ∧ TAt o l c k w es st' { t with changes := addAll t.changes ((List.range' a n).map (Plc.fld q)) } ∧ Tk o l c k st st'
  | 0, a, st, t, x, h, hz => ⟨st, x, by rw [rngD_zero, forGo_nil trivial], by simpa [addAll] using h, Tk.refl⟩
  | n + 1, a, st, t, x, h, hz => by
    obtain ⟨st1, e1, t1, k1⟩ := change_ok h (by omega) (.fld q a)
    simp only [Plc.D] at e1
    have := addN_len t.changes (.fld q a)
    obtain ⟨st2, x', e2, t2, k2⟩ := each_change (x1 := x1) (x2 := x2) (x4 := x4) n (a + 1) st1 _ (some (.int (a : Int))) t1 (by simp only; omega)
    refine ⟨st2, x', ?_, ?_, k1.trans k2⟩
    · rw [rngD_succ, forGo_cons (ρ1 := [some (.loc o), some (.int (q : Int)), some x2, some (.int (a : Int)), x4]) (ρ2 := [some (.loc o), some (.int (q : Int)), some x2, some (.int (a : Int)), x4]) (st2 := st1) trivial rfl (.inl ?_)]
      · exact e2
      · simp [-List.lookup_eq_none_iff, h.ho, e1]
    · simpa [List.range'_succ, addAll] using t2
theorem each_expr {n : Nat} {x1 x2 : D} {x3 : Option D} : ∀ (xs : List Ex) (st : Sto) (t : T) (x : Option D), (∀ e ∈ xs, Sub o l c k w es n e) → TAt o l c k w es st t → t.looks.length + sizes xs ≤ 16000000 → t.knobs.length + sizes xs ≤ 16000000 →
    ∃ st' x', forGo (fun _ => True) (gN 4) (sExp (cMeth 0 "expression" (r_Touch_expression n 0) (cVar 0) [(cVar 4)])) (xs.map Ex.D) [some (.loc o), some x1, some x2, x3, x] st = .nx [some (.loc o), some x1, some x2, x3, x'] st'
      ∧ TAt o l c k w es st' { t with looks := addAll t.looks (xs.flatMap (Ex.look es)), draws := t.draws || xs.any Ex.draws, knobs := addKs t.knobs (xs.flatMap Ex.knobs) } ∧ Tk o l c k st st'
  | [], st, t, x, _, h, _, _ => ⟨st, x, by rw [List.map_nil, forGo_nil trivial], by simpa [addAll, addKs] using h, Tk.refl⟩
  | e :: r, st, t, x, hs, h, h1, h2 => by
    simp only [sizes] at h1 h2
    obtain ⟨st1, e1, t1, k1⟩ := hs e List.mem_cons_self st t h (by omega) (by omega)
    have g1 := addAll_len (e.look es) t.looks
    have g2 := look_size es e
    have g3 := addKs_len e.knobs t.knobs
    have g4 := knobs_size e
    obtain ⟨st2, x', e2, t2, k2⟩ := each_expr (x1 := x1) (x2 := x2) (x3 := x3) r st1 _ (some e.D) (fun y hy => hs y (List.mem_cons_of_mem _ hy)) t1 (by simp only [touchE]; omega) (by simp only [touchE]; omega)
    refine ⟨st2, x', ?_, ?_, k1.trans k2⟩
    · rw [List.map_cons, forGo_cons (ρ1 := [some (.loc o), some x1, some x2, x3, some e.D]) (ρ2 := [some (.loc o), some x1, some x2, x3, some e.D]) (st2 := st1) trivial rfl (.inl ?_)]
      · exact e2
      · simp [-List.lookup_eq_none_iff, h.ho, e1]
    · simpa [touchE, addAll_app, addKs_app, Bool.or_assoc] using t2
theorem make_ok {st : Sto} {t : T} {q : Nat} {xs : List Ex} (hw : WAt w d) (h : TAt o l c k w es st t) (hq : (∃ n, d.tabs[q]? = some n ∧ xs.length = n) ∧ ∀ x ∈ xs, x.ok d es) (hd : maxDep xs ≤ 15) (hb : Bud t (sizes xs + 1)) :
    Did o l c k w es (m_Touch__make [.loc o, .int (q : Int), .tup (xs.map Ex.D)] st) st (touchS es d.tabs (.make q xs) t) := by
  obtain ⟨⟨n, h1, h2⟩, h3⟩ := hq
  obtain ⟨x0, xa, xb, ks, vs, ts, tl, r, rfl, _, _, _, ht⟩ := hw.form
  obtain ⟨hn, a, b, c', fs, h4, h5⟩ := ht.at_ q n h1
  obtain ⟨b1, b2, b3⟩ := hb
  have hsz := sizes_len xs
  obtain ⟨st1, e1, t1, k1⟩ := look_ok h (by omega) (.thg q)
  obtain ⟨st2, e2, t2, k2⟩ := change_ok t1 (by simp only; omega) (.thg q)
  have g1 := addN_len t.looks (.thg q)
  have g2 := addN_len t.changes (.thg q)
  obtain ⟨st3, x3, e3, t3, k3⟩ := each_change (q := q) (x1 := .non) (x2 := .tup (xs.map Ex.D)) (x4 := none) n 0 st2 _ none t2 (by simp only; omega)
  have sub : ∀ e ∈ xs, Sub o l c k (.tup (x0 :: xa :: xb :: .tup ks :: .tup vs :: .tup ts :: .tup tl :: r)) es 30 e := fun e he => expr_ok (d := d) e 30 (by
    have : ∀ (ys : List Ex), e ∈ ys → e.dep ≤ maxDep ys := fun ys => by
      induction ys with
      | nil => intro z; cases z
      | cons y ys ih =>
        intro z
        rcases List.mem_cons.mp z with z | z
        · subst z; simp [maxDep]; omega
        · have := ih z; simp [maxDep]; omega
    have := this xs he; omega) (h3 e he)
  obtain ⟨st4, x4, e4, t4, k4⟩ := each_expr (x1 := .int (q : Int)) (x2 := .tup (xs.map Ex.D)) (x3 := x3) xs st3 _ none sub t3 (by simp only; omega) (by simp only; omega)
  have kk := ((k1.trans k2).trans k3).trans k4
  have f := fldT t2 (tl1 _ _ _ _ _ _ _)
  have hts := atD_nat (x := .tup [a, b, c', .tup fs]) st2 h4
  refine ⟨st4, def_nx (ρ := [some (.loc o), some (.int (q : Int)), some (.tup (xs.map Ex.D)), x3, x4]) rfl ?_ kk.le, ?_, kk⟩
  · unfold b_Touch__make
    simp only [Plc.D] at e1 e2
    rw [show ((0 : Nat) : Int) = 0 from rfl] at e3
    have ln : lenD (.tup fs) st2 = .ok (.int (n : Int)) st2 := by simp [lenD, h5]
    refine sSeq_nx (ρ' := [some (.loc o), some (.int (q : Int)), some (.tup (xs.map Ex.D)), none, none]) (st' := st1) (by simp [-List.lookup_eq_none_iff, h.ho, e1]) ?_
    refine sSeq_nx (ρ' := [some (.loc o), some (.int (q : Int)), some (.tup (xs.map Ex.D)), none, none]) (st' := st2) (by simp [-List.lookup_eq_none_iff, t1.ho, e2]) ?_
    refine sSeq_nx (ρ' := [some (.loc o), some (.int (q : Int)), some (.tup (xs.map Ex.D)), x3, none]) (st' := st3) (sFor_ok (b := ⟨fun _ => True, rngD 0 n⟩) (st' := st2) (cRng1_ok (by simp [f, hts, ln]) (by omega)) e3) ?_
    exact sFor_ok (b := ⟨fun _ => True, xs.map Ex.D⟩) (st' := st3) (by simp [itrD]) e4
  · simpa [touchS, St.look, St.chg, makeC, St.draws, St.tells, St.knobs, List.getD_eq_getElem?_getD, h1, addAll, List.range_eq_range'] using t4
def SubS (o l c k : Nat) (w : D) (es : List Nat) (d : Dims) (n : Nat) (s : St) : Prop := ∀ (st : Sto) (t : T), TAt o l c k w es st t → Bud t s.size → Did o l c k w es (r_Touch_body n 1 [.loc o, s.D] st) st (touchS es d.tabs s t)
def SubB (o l c k : Nat) (w : D) (es : List Nat) (d : Dims) (n : Nat) (b : List St) : Prop := ∀ (st : Sto) (t : T), TAt o l c k w es st t → Bud t (bodySize b) → Did o l c k w es (r_Touch_body n 0 [.loc o, .tup (bodyD b)] st) st (touchB es d.tabs b t)
theorem Bud.after {s : St} {b n : Nat} {t : T} (h : Bud t (s.size + n)) (hok : s.ok d es) : Bud (touchS es d.tabs s t) n := by
  obtain ⟨h1, h2, h3⟩ := h
  have a1 := addAll_len (s.look es) t.looks
  have a2 := St.look_size es s
  have a3 := addAll_len (s.chg es d.tabs) t.changes
  have a4 := St.chg_size s hok
  have a5 := addKs_len s.knobs t.knobs
  have a6 := St.knobs_size s
  exact ⟨by simp only [touchS]; omega, by simp only [touchS]; omega, by simp only [touchS]; omega⟩
theorem touchB_cons {tabs : List Nat} {s : St} {r : List St} {t : T} : touchB es tabs (s :: r) t = touchB es tabs r (touchS es tabs s t) := by
  simp [touchB, touchS, bodyLook, bodyChg, bodyDraws, bodyTells, bodyKnobs, addAll_app, addKs_app, Bool.or_assoc]
theorem each_stmt {n : Nat} {x1 : D} : ∀ (b : List St) (st : Sto) (t : T) (x : Option D), (∀ s ∈ b, SubS o l c k w es d n s ∧ s.ok d es) → TAt o l c k w es st t → Bud t (bodySize b) →
    ∃ st' x', forGo (fun _ => True) (gN 2) (sExp (cMeth 0 "_statement" (r_Touch_body n 1) (cVar 0) [(cVar 2)])) (bodyD b) [some (.loc o), some x1, x] st = .nx [some (.loc o), some x1, x'] st'
      ∧ TAt o l c k w es st' (touchB es d.tabs b t) ∧ Tk o l c k st st'
  | [], st, t, x, _, h, _ => ⟨st, x, by rw [bodyD, forGo_nil trivial], by simpa [touchB, bodyLook, bodyChg, bodyDraws, bodyTells, bodyKnobs, addAll, addKs] using h, Tk.refl⟩
  | s :: r, st, t, x, hs, h, hb => by
    obtain ⟨s1, s2⟩ := hs s List.mem_cons_self
    have hb : Bud t (s.size + bodySize r) := hb
    obtain ⟨st1, e1, t1, k1⟩ := s1 st t h ⟨by have := hb.1; omega, by have := hb.2.1; omega, by have := hb.2.2; omega⟩
    obtain ⟨st2, x', e2, t2, k2⟩ := each_stmt (x1 := x1) r st1 _ (some s.D) (fun y hy => hs y (List.mem_cons_of_mem _ hy)) t1 (hb.after (b := 0) s2)
    refine ⟨st2, x', ?_, ?_, k1.trans k2⟩
    · rw [bodyD, forGo_cons (ρ1 := [some (.loc o), some x1, some s.D]) (ρ2 := [some (.loc o), some x1, some s.D]) (st2 := st1) trivial rfl (.inl ?_)]
      · exact e2
      · simp [-List.lookup_eq_none_iff, h.ho, e1]
    · rw [touchB_cons]; exact t2
theorem body_of {n : Nat} {b : List St} (hs : ∀ s ∈ b, SubS o l c k w es d n s ∧ s.ok d es) : SubB o l c k w es d (n + 1) b := by
  intro st t h hb
  obtain ⟨st1, x', e1, t1, k1⟩ := each_stmt (x1 := .tup (bodyD b)) b st t none hs h hb
  refine ⟨st1, ?_, t1, k1⟩
  show mDef 3 (b_Touch_body (r_Touch_body n)) _ _ = _
  refine def_nx (ρ := [some (.loc o), some (.tup (bodyD b)), x']) rfl ?_ k1.le
  unfold b_Touch_body
  exact sFor_ok (b := ⟨fun _ => True, bodyD b⟩) (st' := st) (by simp [itrD]) e1
theorem stmt_set {n : Nat} {p : Pl} {e : Ex} (hp : p.ok d es) (he : e.ok d es) (hd : e.dep ≤ 15) : SubS o l c k w es d (n + 1) (.set p e) := by
  intro st t h hb
  obtain ⟨b1, b2, b3⟩ := hb
  simp only [St.size] at b1 b2 b3
  obtain ⟨st1, e1, t1, k1⟩ := change_ok h (by omega) (p.plc es)
  obtain ⟨st2, e2, t2, k2⟩ := expr_ok e 30 (by omega) he st1 _ t1 (by simp only; omega) (by simp only; omega)
  have e2 : m_Touch_expression 30 [.loc o, e.D] st1 = .ok .non st2 := e2
  refine ⟨st2, ?_, ?_, k1.trans k2⟩
  · show mDef 4 (b_Touch__statement (r_Touch_body n)) _ _ = _
    refine def_nx (ρ := [some (.loc o), some (.tup [.str "set", p.D, e.D]), some (.str "set"), some (p.plc es).D]) rfl ?_ (k1.trans k2).le
    unfold b_Touch__statement
    refine sSeq_nx (ρ' := [some (.loc o), some (.tup [.str "set", p.D, e.D]), some (.str "set"), none]) (st' := st) (by simp [St.D]) ?_
    refine sIf_true (st' := st) (by simp) ?_
    refine sSeq_nx (ρ' := [some (.loc o), some (.tup [.str "set", p.D, e.D]), some (.str "set"), some p.D]) (st' := st) (by simp) ?_
    refine sSeq_nx (ρ' := [some (.loc o), some (.tup [.str "set", p.D, e.D]), some (.str "set"), some (p.plc es).D]) (st' := st) ?_ ?_
    · cases p with
      | val v => simp [Pl.D, Pl.plc, Plc.D]
      | fld i f =>
        have hi : i < es.length := FldOk.lt hp
        simp [-List.lookup_eq_none_iff, Pl.D, Pl.plc, h.ho, field_ok h hi]
    refine sSeq_nx (ρ' := [some (.loc o), some (.tup [.str "set", p.D, e.D]), some (.str "set"), some (p.plc es).D]) (st' := st1) (by simp [-List.lookup_eq_none_iff, h.ho, e1]) ?_
    simp [-List.lookup_eq_none_iff, t1.ho, e2]
  · simpa [touchS, touchE, St.look, St.chg, St.draws, St.tells, St.knobs, addAll] using t2
theorem stmt_make {n q : Nat} {xs : List Ex} (hw : WAt w d) (hq : (∃ n, d.tabs[q]? = some n ∧ xs.length = n) ∧ ∀ x ∈ xs, x.ok d es) (hd : maxDep xs ≤ 15) : SubS o l c k w es d (n + 1) (.make q xs) := by
  intro st t h hb
  obtain ⟨st1, e1, t1, k1⟩ := make_ok hw h hq hd hb
  refine ⟨st1, ?_, t1, k1⟩
  show mDef 4 (b_Touch__statement (r_Touch_body n)) _ _ = _
  refine def_nx (ρ := [some (.loc o), some (.tup [.str "make", .int q, .tup (xs.map Ex.D)]), some (.str "make"), none]) rfl ?_ k1.le
  unfold b_Touch__statement
  refine sSeq_nx (ρ' := [some (.loc o), some (.tup [.str "make", .int q, .tup (xs.map Ex.D)]), some (.str "make"), none]) (st' := st) (by simp [St.D]) ?_
  refine sIf_false (st' := st) (by simp) ?_
  refine sIf_true (st' := st) (by simp) ?_
  simp [-List.lookup_eq_none_iff, h.ho, e1]
theorem stmt_drop {n q : Nat} (hq : q < es.length) : SubS o l c k w es d (n + 1) (.drop q) := by
  intro st t h hb
  obtain ⟨b1, b2, b3⟩ := hb
  simp only [St.size] at b1 b2 b3
  obtain ⟨st1, e1, t1, k1⟩ := change_ok h (by omega) (.thg (es.getD q 0))
  have f1 := fldT h (tl2 _ _ _ _ _ _ _)
  have hx : (es.map natD)[q]? = some (natD (es.getD q 0)) := by
    rw [List.getElem?_map, List.getElem?_eq_getElem hq]
    simp [List.getD_eq_getElem?_getD, List.getElem?_eq_getElem hq]
  refine ⟨st1, ?_, ?_, k1⟩
  · show mDef 4 (b_Touch__statement (r_Touch_body n)) _ _ = _
    refine def_nx (ρ := [some (.loc o), some (.tup [.str "drop", .int q]), some (.str "drop"), none]) rfl ?_ k1.le
    unfold b_Touch__statement
    refine sSeq_nx (ρ' := [some (.loc o), some (.tup [.str "drop", .int q]), some (.str "drop"), none]) (st' := st) (by simp [St.D]) ?_
    refine sIf_false (st' := st) (by simp) ?_
    refine sIf_false (st' := st) (by simp) ?_
    refine sIf_true (st' := st) (by simp) ?_
    have e1 : m_Touch_change [.loc o, .tup [.str "things", natD (es.getD q 0)]] st = .ok .non st1 := e1
    simp [-List.lookup_eq_none_iff, h.ho, f1, atD_nat st hx, e1, -List.getD_eq_getElem?_getD]
  · simpa [touchS, St.look, St.chg, St.draws, St.tells, St.knobs, addAll, addKs] using t1
theorem stmt_tell {n m : Nat} {e : Ex} (he : e.ok d es) (hd : e.dep ≤ 15) : SubS o l c k w es d (n + 1) (.tell m e) := by
  intro st t h hb
  obtain ⟨b1, b2, b3⟩ := hb
  simp only [St.size] at b1 b2 b3
  have hb := h.ob t.draws true
  obtain ⟨st2, e2, t2, k2⟩ := expr_ok e 30 (by omega) he _ _ hb (by simp only; omega) (by simp only; omega)
  have e2 : m_Touch_expression 30 [.loc o, e.D] _ = .ok .non st2 := e2
  have kk : Tk o l c k st st2 := (Tk.set (.inl rfl)).trans k2
  refine ⟨st2, ?_, ?_, kk⟩
  · show mDef 4 (b_Touch__statement (r_Touch_body n)) _ _ = _
    refine def_nx (ρ := [some (.loc o), some (.tup [.str "tell", .int m, e.D]), some (.str "tell"), none]) rfl ?_ kk.le
    unfold b_Touch__statement
    refine sSeq_nx (ρ' := [some (.loc o), some (.tup [.str "tell", .int m, e.D]), some (.str "tell"), none]) (st' := st) (by simp [St.D]) ?_
    refine sIf_false (st' := st) (by simp) ?_
    refine sIf_false (st' := st) (by simp) ?_
    refine sIf_false (st' := st) (by simp) ?_
    refine sIf_true (st' := st) (by simp) ?_
    simp [-List.lookup_eq_none_iff, h.ho, get_set_eq h.ho, e2]
  · simpa [touchS, touchE, St.look, St.chg, St.draws, St.tells, St.knobs, addAll] using t2
theorem stmt_iff {n : Nat} {e : Ex} {a b : List St} (he : e.ok d es) (hd : e.dep ≤ 15) (ha : SubB o l c k w es d n a) (hb : SubB o l c k w es d n b) (oka : bodyOk d es a) : SubS o l c k w es d (n + 1) (.iff e a b) := by
  intro st t h hu
  obtain ⟨b1, b2, b3⟩ := hu
  simp only [St.size] at b1 b2 b3
  obtain ⟨st1, e1, t1, k1⟩ := expr_ok e 30 (by omega) he st t h (by omega) (by omega)
  have e1 : m_Touch_expression 30 [.loc o, e.D] st = .ok .non st1 := e1
  have a1 := addAll_len (e.look es) t.looks
  have a2 := look_size es e
  have a5 := addKs_len e.knobs t.knobs
  have a6 := knobs_size e
  obtain ⟨st2, e2, t2, k2⟩ := ha st1 _ t1 ⟨by simp only [touchE]; omega, by simp only [touchE]; omega, by simp only [touchE]; omega⟩
  have c1 := addAll_len (bodyLook es a) (addAll t.looks (e.look es))
  have c2 := bodyLook_size es a
  have c3 := addAll_len (bodyChg es d.tabs a) t.changes
  have c4 := bodyChg_size a oka
  have c5 := addKs_len (bodyKnobs a) (addKs t.knobs e.knobs)
  have c6 := bodyKnobs_size a
  obtain ⟨st3, e3, t3, k3⟩ := hb st2 _ t2 ⟨by simp only [touchE, touchB]; omega, by simp only [touchE, touchB]; omega, by simp only [touchE, touchB]; omega⟩
  refine ⟨st3, ?_, ?_, (k1.trans k2).trans k3⟩
  · show mDef 4 (b_Touch__statement (r_Touch_body n)) _ _ = _
    refine def_nx (ρ := [some (.loc o), some (.tup [.str "if", e.D, .tup (bodyD a), .tup (bodyD b)]), some (.str "if"), none]) rfl ?_ ((k1.trans k2).trans k3).le
    unfold b_Touch__statement
    refine sSeq_nx (ρ' := [some (.loc o), some (.tup [.str "if", e.D, .tup (bodyD a), .tup (bodyD b)]), some (.str "if"), none]) (st' := st) (by simp [St.D]) ?_
    refine sIf_false (st' := st) (by simp) ?_
    refine sIf_false (st' := st) (by simp) ?_
    refine sIf_false (st' := st) (by simp) ?_
    refine sIf_false (st' := st) (by simp) ?_
    refine sSeq_nx (ρ' := [some (.loc o), some (.tup [.str "if", e.D, .tup (bodyD a), .tup (bodyD b)]), some (.str "if"), none]) (st' := st1) (by simp [-List.lookup_eq_none_iff, h.ho, e1]) ?_
    refine sSeq_nx (ρ' := [some (.loc o), some (.tup [.str "if", e.D, .tup (bodyD a), .tup (bodyD b)]), some (.str "if"), none]) (st' := st2) (by simp [-List.lookup_eq_none_iff, t1.ho, e2]) ?_
    simp [-List.lookup_eq_none_iff, t2.ho, e3]
  · simpa [touchS, touchE, touchB, St.look, St.chg, St.draws, St.tells, St.knobs, addAll_app, addKs_app, Bool.or_assoc] using t3
mutual
theorem stmt_ok (hw : WAt w d) : ∀ (s : St) (n : Nat), 2 * s.dep ≤ n → s.dep ≤ 15 → s.ok d es → SubS o l c k w es d n s
  | .set p e, n, h, hd, q => by
    simp only [St.dep] at h hd
    simp only [St.ok] at q
    obtain ⟨m, rfl⟩ : ∃ m, n = m + 1 := ⟨n - 1, by omega⟩
    exact stmt_set q.1 q.2 (by omega)
  | .make t xs, n, h, hd, q => by
    simp only [St.dep] at h hd
    simp only [St.ok] at q
    obtain ⟨m, rfl⟩ : ∃ m, n = m + 1 := ⟨n - 1, by omega⟩
    exact stmt_make hw q (by omega)
  | .drop i, n, h, hd, q => by
    simp only [St.dep] at h hd
    simp only [St.ok] at q
    obtain ⟨m, rfl⟩ : ∃ m, n = m + 1 := ⟨n - 1, by omega⟩
    exact stmt_drop q
  | .tell m e, n, h, hd, q => by
    simp only [St.dep] at h hd
    simp only [St.ok] at q
    obtain ⟨m, rfl⟩ : ∃ m, n = m + 1 := ⟨n - 1, by omega⟩
    exact stmt_tell q.2 (by omega)
  | .iff e a b, n, h, hd, q => by
    simp only [St.dep] at h hd
    simp only [St.ok] at q
    obtain ⟨m, rfl⟩ : ∃ m, n = m + 1 := ⟨n - 1, by omega⟩
    exact stmt_iff q.1 (by omega) (body_ok hw a m (by omega) (by omega) q.2.1) (body_ok hw b m (by omega) (by omega) q.2.2) q.2.1
theorem body_ok (hw : WAt w d) : ∀ (b : List St) (n : Nat), 2 * bodyDep b + 1 ≤ n → bodyDep b ≤ 15 → bodyOk d es b → SubB o l c k w es d n b
  | b, n, h, hd, q => by
    obtain ⟨m, rfl⟩ : ∃ m, n = m + 1 := ⟨n - 1, by omega⟩
    exact body_of (stmts_ok hw b m (by omega) hd q)
theorem stmts_ok (hw : WAt w d) : ∀ (b : List St) (n : Nat), 2 * bodyDep b ≤ n → bodyDep b ≤ 15 → bodyOk d es b → ∀ s ∈ b, SubS o l c k w es d n s ∧ s.ok d es
  | [], _, _, _, _ => fun s hs => by cases hs
  | s :: r, n, h, hd, q => fun x hx => by
    simp only [bodyDep] at h hd
    simp only [bodyOk] at q
    have h1 := stmt_ok hw s n (by omega) (by omega) q.1
    have h2 := stmts_ok hw r n (by omega) (by omega) q.2
    rcases List.mem_cons.mp hx with e | e
    · subst e; exact ⟨h1, q.1⟩
    · exact h2 x e
end
end
end PMl

set_option Elab.async false
set_option linter.all false
set_option maxRecDepth 100000
set_option maxHeartbeats 1000000
/-! the plain law of k95, 6: places in order. -/
namespace PMl
open PySem PM L2
def sh0 : Nat → Bool := fun i => decide (i = 0)
def Plc.kind : Plc → Str
  | .val _ => "value" | .fld _ _ => "field" | .thg _ => "things"
def leP (p q : Plc) : Bool := leT sh0 p.D q.D
def kinds : List Str := ["value", "field", "things"]
section
open Classical
theorem addN_mem {xs : List Plc} {p q : Plc} : q ∈ addN xs p ↔ q ∈ xs ∨ q = p := by
  unfold addN
  split
  · rename_i h
    exact ⟨.inl, fun z => z.elim id fun e => e ▸ h⟩
  · simp
theorem addAll_mem {q : Plc} : ∀ {ps xs : List Plc}, q ∈ addAll xs ps ↔ q ∈ xs ∨ q ∈ ps
  | [], xs => by simp [addAll]
  | p :: ps, xs => by
    show q ∈ addAll (addN xs p) ps ↔ _
    rw [addAll_mem, addN_mem, List.mem_cons, or_assoc]
theorem addN_nodup {xs : List Plc} {p : Plc} (h : xs.Nodup) : (addN xs p).Nodup := by
  unfold addN
  split
  · exact h
  · rename_i hp
    rw [List.nodup_append]
    exact ⟨h, by simp, fun a ha b hb => by
      rw [List.mem_singleton] at hb
      subst hb
      exact fun e => hp (e ▸ ha)⟩
theorem addAll_nodup : ∀ {ps xs : List Plc}, xs.Nodup → (addAll xs ps).Nodup
  | [], _, h => h
  | p :: ps, xs, h => addAll_nodup (xs := addN xs p) (addN_nodup h)
theorem addAll_id : ∀ {ps xs : List Plc}, (xs ++ ps).Nodup → addAll xs ps = xs ++ ps
  | [], xs, _ => by simp [addAll]
  | p :: ps, xs, h => by
    have hp : p ∉ xs := fun z => by
      rw [List.nodup_append] at h
      exact h.2.2 p z p List.mem_cons_self rfl
    show addAll (addN xs p) ps = _
    rw [addN, if_neg hp, addAll_id (by simpa using h)]
    simp
theorem addAll_dis : ∀ {ps xs : List Plc}, (∀ p ∈ ps, p ∉ xs) → addAll xs ps = xs ++ addAll [] ps := by
  have go : ∀ (ps xs ys : List Plc), (∀ p ∈ ps, p ∉ xs) → addAll (xs ++ ys) ps = xs ++ addAll ys ps := by
    intro ps
    induction ps with
    | nil => intro xs ys _; rfl
    | cons p ps ih =>
      intro xs ys h
      have hp : p ∉ xs := h p List.mem_cons_self
      show addAll (addN (xs ++ ys) p) ps = xs ++ addAll (addN ys p) ps
      have e : addN (xs ++ ys) p = xs ++ addN ys p := by
        unfold addN
        by_cases hy : p ∈ ys
        · rw [if_pos (List.mem_append.mpr (.inr hy)), if_pos hy]
        · rw [if_neg (fun z => (List.mem_append.mp z).elim hp hy), if_neg hy, List.append_assoc]
      rw [e]
      exact ih xs _ fun q hq => h q (List.mem_cons_of_mem _ hq)
  intro ps xs h
  have := go ps xs [] h
  rwa [List.append_nil] at this
theorem addAll_sub : ∀ {ps xs : List Plc} (R : Plc → Plc → Prop), (xs ++ ps).Pairwise R → (addAll xs ps).Pairwise R
  | [], xs, R, h => by simpa [addAll] using h
  | p :: ps, xs, R, h => by
    show (addAll (addN xs p) ps).Pairwise R
    refine addAll_sub R ?_
    unfold addN
    split
    · refine List.Pairwise.sublist ?_ h
      exact List.Sublist.append (List.Sublist.refl _) (List.sublist_cons_self _ _)
    · simpa using h
theorem leP_trans (a b c : Plc) : leP a b = true → leP b c = true → leP a c = true := leT_trans _ _ _
theorem leP_total (a b : Plc) : (leP a b || leP b a) = true := leT_total _ _
theorem tk_plc (p : Plc) : ∃ k, tkD sh0 p.D = some k := by cases p <;> exact ⟨_, by simp [Plc.D, tkD, ikL, sh0]; rfl⟩
theorem leP_anti {a b : Plc} (h1 : leP a b = true) (h2 : leP b a = true) : a = b := by
  obtain ⟨k, e1⟩ := tk_plc a
  obtain ⟨l, e2⟩ := tk_plc b
  exact plc_inj (leT_anti e1 e2 h1 h2)
theorem sorted_uniq {A B : List Plc} (a1 : A.Pairwise fun x y => leP x y = true) (b1 : B.Pairwise fun x y => leP x y = true) (a2 : A.Nodup) (b2 : B.Nodup) (h : ∀ p, p ∈ A ↔ p ∈ B) : A = B :=
  ((List.perm_ext_iff_of_nodup a2 b2).mpr h).eq_of_pairwise (le := fun x y => leP x y = true) (fun _ _ _ _ => leP_anti) a1 b1
def ofK (k : Str) (l : List Plc) : List Plc := l.filter fun p => decide (p.kind = k)
def SK (k : Str) (l : List Plc) : List Plc := (ofK k (addAll [] l)).mergeSort leP
theorem SK_sorted (k : Str) (l : List Plc) : (SK k l).Pairwise fun x y => leP x y = true := List.pairwise_mergeSort leP_trans leP_total _
theorem SK_nodup (k : Str) (l : List Plc) : (SK k l).Nodup := (List.mergeSort_perm _ _).nodup_iff.mpr (List.Pairwise.sublist List.filter_sublist (addAll_nodup (ps := l) List.nodup_nil))
theorem SK_mem {k : Str} {l : List Plc} {p : Plc} : p ∈ SK k l ↔ p ∈ l ∧ p.kind = k := by
  unfold SK ofK
  rw [(List.mergeSort_perm _ _).mem_iff, List.mem_filter, addAll_mem]
  simp
theorem SK_ext {k : Str} {l m : List Plc} (h : ∀ p, p ∈ l ↔ p ∈ m) : SK k l = SK k m :=
  sorted_uniq (SK_sorted _ _) (SK_sorted _ _) (SK_nodup _ _) (SK_nodup _ _) fun p => by rw [SK_mem, SK_mem, h]
def ordL (l : List Plc) : List Plc := kinds.flatMap fun k => SK k l
theorem ordL_ext {l m : List Plc} (h : ∀ p, p ∈ l ↔ p ∈ m) : ordL l = ordL m := by
  unfold ordL
  congr 1
  funext k
  exact SK_ext h
theorem ordL_mem {l : List Plc} {p : Plc} : p ∈ ordL l ↔ p ∈ l := by
  unfold ordL
  rw [List.mem_flatMap]
  constructor
  · rintro ⟨k, _, h⟩
    exact (SK_mem.mp h).1
  · intro h
    refine ⟨p.kind, ?_, SK_mem.mpr ⟨h, rfl⟩⟩
    cases p <;> simp [kinds, Plc.kind]
/-- sorted of places -/
theorem shOf_plc (p : Plc) (r : List Plc) : shOf ((p :: r).map Plc.D) = sh0 := by
  funext i
  cases p with
  | val v => match i with | 0 => rfl | 1 => rfl | n + 2 => simp [shOf, Plc.D, sh0]
  | fld v f => match i with | 0 => rfl | 1 => rfl | 2 => rfl | n + 3 => simp [shOf, Plc.D, sh0]
  | thg v => match i with | 0 => rfl | 1 => rfl | n + 2 => simp [shOf, Plc.D, sh0]
theorem sorted_plc (ps : List Plc) (st : Sto) : sortedAS (ps.map Plc.D) st = .ok ((ps.mergeSort leP).map Plc.D) st := by
  cases ps with
  | nil => simp [sortedAS, intsD, sortI]
  | cons p r =>
    obtain ⟨ks, hk⟩ := keysT_of (sh := sh0) (xs := (p :: r).map Plc.D) fun x hx => by
      obtain ⟨q, _, rfl⟩ := List.mem_map.mp hx
      exact tk_plc q
    have hi : intsD ((p :: r).map Plc.D) = none := by cases p <;> rfl
    unfold sortedAS
    rw [hi, shOf_plc, hk]
    dsimp only
    rw [List.map_mergeSort (r := leP) (s := leT sh0) (fun a _ b _ => rfl)]
    rfl
/-- those of one kind, by a comprehension -/
theorem comp_kind {ρ : PM.Env} {i : Nat} {k : Str} {te : E} {st : Sto} (t : ET) (ht : ∀ p : Plc, t (ρ.set i (some p.D)) st = .ok (decide (p.kind = k)) st) (he : ∀ p : Plc, te (ρ.set i (some p.D)) st = .ok p.D st) (ps : List Plc) {chk : Sto → Prop} (hc : chk st) :
    compGo chk (.one i) t te ρ (ps.map Plc.D) st = .ok ((ofK k ps).map Plc.D) st := by
  induction ps with
  | nil => exact compGo_nil hc
  | cons p r ih =>
    rw [List.map_cons, compGo, if_pos hc]
    show ((cNx (t (ρ.set i (some p.D)) st)).bind _) = _
    rw [ht p]
    by_cases h : p.kind = k
    · simp [h, he p, ih, ofK]
    · simp [h, ih, ofK]
theorem kindD (p : Plc) (st : Sto) : getD p.D (.int 0) st = .ok (.str p.kind) st := by cases p <;> simp [Plc.D, Plc.kind]
theorem SK_of_nodup {k : Str} {l : List Plc} (h : l.Nodup) : (ofK k l).mergeSort leP = SK k l := by
  unfold SK
  rw [addAll_id (by simpa using h)]
  simp
theorem SK_dedup {k : Str} {l : List Plc} : addAll [] ((ofK k l).mergeSort leP) = SK k l := by
  refine sorted_uniq (addAll_sub _ (by rw [List.nil_append]; exact List.pairwise_mergeSort leP_trans leP_total _)) (SK_sorted _ _) (addAll_nodup List.nodup_nil) (SK_nodup _ _) fun p => ?_
  rw [addAll_mem, (List.mergeSort_perm _ _).mem_iff, SK_mem]
  simp [ofK]
end
end PMl

set_option Elab.async false
set_option linter.all false
set_option maxRecDepth 100000
set_option maxHeartbeats 1000000
/-! the plain law of k95, 7: ordered, _law_sorted, told. -/
namespace PMl
open PySem PM L2
theorem below_plc (N : Nat) (p : Plc) : below N p.D = true := by cases p <;> rfl
theorem belowAll_plc (N : Nat) : ∀ l : List Plc, belowAll N (l.map Plc.D) = true
  | [] => rfl
  | p :: r => by rw [List.map_cons, belowAll, below_plc, belowAll_plc N r]; rfl
theorem def_pure {n : Nat} {s : S} {ds : List D} {ρ0 : PM.Env} {st g : Sto} {d : D} (h0 : ds.map some ++ List.replicate (n - ds.length) none = ρ0) (h : s ρ0 st = .rt d (st ++ g)) (hb : below st.length d = true) : mDef n s ds st = .ok d st := by
  show gcR st (outR (s (ds.map some ++ List.replicate (n - ds.length) none) st)) = _
  rw [h0, h]
  exact gcR_pure hb
theorem set_last {st : Sto} {o o' : O} : (st ++ [o]).set st.length o' = st ++ [o'] := by
  rw [List.set_append_right _ _ (Nat.le_refl _), Nat.sub_self]; rfl
section
open Classical
theorem SK_len (k : Str) (l : List Plc) : (SK k l).length ≤ (ofK k l).length := by
  rw [← SK_dedup]
  have := addAll_len ((ofK k l).mergeSort leP) []
  rw [List.length_mergeSort, List.length_nil] at this
  omega
theorem cnt_sum : ∀ l : List Plc, (ofK "value" l).length + (ofK "field" l).length + (ofK "things" l).length = l.length
  | [] => rfl
  | p :: r => by
    have ih := cnt_sum r
    unfold ofK at ih ⊢
    cases p with
    | val v =>
      have hk : (Plc.val v).kind = "value" := rfl
      simp [List.filter_cons, hk]; omega
    | fld v f =>
      have hk : (Plc.fld v f).kind = "field" := rfl
      simp [List.filter_cons, hk]; omega
    | thg v =>
      have hk : (Plc.thg v).kind = "things" := rfl
      simp [List.filter_cons, hk]; omega
theorem ordL_len (l : List Plc) : (ordL l).length ≤ l.length := by
  have h1 := SK_len "value" l
  have h2 := SK_len "field" l
  have h3 := SK_len "things" l
  have h4 := cnt_sum l
  have l0 : (SK "value" l).length + (SK "field" l).length + (SK "things" l).length = (ordL l).length := by
    simp [ordL, kinds]; omega
  omega
end
section
open Classical
variable {n : Nat} {l : List Plc} {st : Sto}
theorem comp_of {ρ : PM.Env} {i j q : Nat} {k : Str} (hq : ρ[q]? = some (some (.loc n))) (hj : ρ[j]? = some (some (.str k))) (hi : i < ρ.length) (hij : i ≠ j) {s : Sto} (h : s[n]? = some (.lst (l.map Plc.D))) (hz : l.length ≤ 16000000) :
    cComp (cItr (cVar q)) (.one i) (cTst (cOp2 eqD (cOp2 getD (cVar i) (cC (.int 0))) (cVar j))) (cVar i) [i] ρ s = .ok ((ofK k l).map Plc.D) s := by
  have e : cItr (cVar q) ρ s = .ok ⟨fun s' => s'[n]? = some (.lst (l.map Plc.D)), l.map Plc.D⟩ s := by simp [hq, itrD, h]
  rw [cComp_ap, e, R.bind_ok, if_pos (by rw [List.length_map]; exact Nat.le_trans hz sz16)]
  have hi' : i < (wipeD ρ [i]).length := by simp [wipeD, hi]
  refine comp_kind (k := k) _ (fun p => ?_) (fun p => ?_) l h
  · have h1 : ((wipeD ρ [i]).set i (some p.D))[i]? = some (some p.D) := List.getElem?_set_self hi'
    have h2 : ((wipeD ρ [i]).set i (some p.D))[j]? = some (some (.str k)) := by simp [wipeD, List.getElem?_set_ne hij, hj]
    simp [h1, h2, kindD]
  · have h1 : ((wipeD ρ [i]).set i (some p.D))[i]? = some (some p.D) := List.getElem?_set_self hi'
    simp [h1]
theorem ordered_ok (h : st[n]? = some (.lst (l.map Plc.D))) (hn : l.Nodup) (hz : l.length ≤ 12000000) : m_ordered [.loc n] st = .ok (.tup ((ordL l).map Plc.D)) st := by
  have step : ∀ (k : Str) (x : Option D) (acc : List Plc), acc.length + (ofK k l).length ≤ 12000000 → (sExp (cExt (cVar 1) (cS1 sortedAS (cComp (cItr (cVar 0)) (.one 3) (cTst (cOp2 eqD (cOp2 getD (cVar 3) (cC (.int 0))) (cVar 2))) (cVar 3) [3])))) [some (.loc n), some (.loc st.length), some (.str k), x] (st ++ [.lst (acc.map Plc.D)])
      = .nx [some (.loc n), some (.loc st.length), some (.str k), x] (st ++ [.lst ((acc ++ SK k l).map Plc.D)]) := by
    intro k x acc ha
    have hs : (st ++ [O.lst (acc.map Plc.D)])[n]? = some (.lst (l.map Plc.D)) := get_app h
    have hN : (st ++ [O.lst (acc.map Plc.D)])[st.length]? = some (.lst (acc.map Plc.D)) := get_new
    have e1 := comp_of (ρ := [some (.loc n), some (.loc st.length), some (.str k), x]) (i := 3) (j := 2) (q := 0) (k := k) rfl rfl (by simp) (by decide) hs (by omega)
    have e2 := sorted_plc (ofK k l) (st ++ [O.lst (acc.map Plc.D)])
    rw [SK_of_nodup hn] at e2
    have hl := SK_len k l
    refine sExp_ok (d := .non) ?_
    rw [cExt_ap]
    simp only [cVar_ap, List.getElem?_cons_succ, List.getElem?_cons_zero, R.bind_ok, lstD_at hN, cS1_ap, e1, e2]
    simp only [extD, hN]
    rw [if_pos (by simp only [List.length_map]; exact Nat.le_trans (by omega) sz16), set_last, List.map_append]
  refine def_pure (g := [.lst ((ordL l).map Plc.D)]) rfl ?_ (belowAll_plc _ _)
  have l1 := SK_len "value" l
  have l2 := SK_len "field" l
  have l3 := SK_len "things" l
  have l4 := cnt_sum l
  unfold b_ordered
  refine sSeq_nx (ρ' := [some (.loc n), some (.loc st.length), none, none]) (st' := st ++ [.lst []]) (by simp) ?_
  refine sSeq_nx (ρ' := [some (.loc n), some (.loc st.length), some (.str "things"), none]) (st' := st ++ [.lst ((ordL l).map Plc.D)]) ?_ ?_
  · refine sFor_ok (b := ⟨fun _ => True, [.str "value", .str "field", .str "things"]⟩) (st' := st ++ [.lst []]) (by simp [itrD, k_KINDS]) ?_
    refine (forGo_cons trivial rfl (.inl (step "value" none [] (by simp only [List.length_nil]; omega)))).trans ?_
    refine (forGo_cons trivial rfl (.inl (step "field" none ([] ++ SK "value" l) (by simp; omega)))).trans ?_
    refine (forGo_cons trivial rfl (.inl (step "things" none ([] ++ SK "value" l ++ SK "field" l) (by simp; omega)))).trans ?_
    refine (forGo_nil trivial).trans ?_
    simp [ordL, kinds]
  · simp [seqD, tupS]
theorem put_all {n1 : Nat} {x0 x2 x4 : Option D} : ∀ (s acc : List Plc) (x : Option D), acc.length + s.length ≤ 16000000 → ∃ x',
    forGo (fun _ => True) (gN 3) (sIf (cTst (cOp2 notInD (cVar 3) (cVar 1))) (sExp (cApp (cVar 1) (cVar 3))) sNext) (s.map Plc.D) [x0, some (.loc st.length), x2, x, x4] (st ++ [.lst (acc.map Plc.D)])
      = .nx [x0, some (.loc st.length), x2, x', x4] (st ++ [.lst ((addAll acc s).map Plc.D)])
  | [], acc, x, _ => ⟨x, by rw [List.map_nil, forGo_nil trivial]; rfl⟩
  | p :: s, acc, x, hz => by
    simp only [List.length_cons] at hz
    have hN : (st ++ [O.lst (acc.map Plc.D)])[st.length]? = some (.lst (acc.map Plc.D)) := get_new
    have ni := notInD_lst hN (cl_plc p) (dep_plc p) (clP _)
    have hl := addN_len acc p
    obtain ⟨x', e⟩ := put_all (n1 := n1) (x0 := x0) (x2 := x2) (x4 := x4) s (addN acc p) (some p.D) (by omega)
    refine ⟨x', ?_⟩
    rw [List.map_cons, forGo_cons (ρ1 := [x0, some (.loc st.length), x2, some p.D, x4]) (ρ2 := [x0, some (.loc st.length), x2, some p.D, x4]) (st2 := st ++ [.lst ((addN acc p).map Plc.D)]) trivial rfl (.inl ?_)]
    · exact e
    · by_cases hp : p ∈ acc
      · simp [ni, mem_plc, hp, addN]
      · have ha := appD_at (y := p.D) hN (by simp; omega)
        rw [set_last] at ha
        simp [ni, mem_plc, hp, addN, lstD_at hN, ha]
theorem lsorted_ok (h : st[n]? = some (.lst (l.map Plc.D))) (hz : l.length ≤ 12000000) : m__law_sorted [.loc n] st = .ok (.tup ((ordL l).map Plc.D)) st := by
  have l1 := SK_len "value" l
  have l2 := SK_len "field" l
  have l3 := SK_len "things" l
  have l4 := cnt_sum l
  have step : ∀ (k : Str) (x : Option D) (acc : List Plc), acc.length + (ofK k l).length ≤ 12000000 → (∀ p ∈ acc, p.kind ≠ k) → ∃ x', sFor (cItl (cS1 sortedAS (cComp (cItr (cVar 0)) (.one 4) (cTst (cOp2 eqD (cOp2 getD (cVar 4) (cC (.int 0))) (cVar 2))) (cVar 4) [4]))) (gN 3) (sIf (cTst (cOp2 notInD (cVar 3) (cVar 1))) (sExp (cApp (cVar 1) (cVar 3))) sNext) [some (.loc n), some (.loc st.length), some (.str k), x, none] (st ++ [.lst (acc.map Plc.D)])
      = .nx [some (.loc n), some (.loc st.length), some (.str k), x', none] (st ++ [.lst ((acc ++ SK k l).map Plc.D)]) := by
    intro k x acc ha hd
    have hs : (st ++ [O.lst (acc.map Plc.D)])[n]? = some (.lst (l.map Plc.D)) := get_app h
    have e1 := comp_of (ρ := [some (.loc n), some (.loc st.length), some (.str k), x, none]) (i := 4) (j := 2) (q := 0) (k := k) rfl rfl (by simp) (by decide) hs (by omega)
    have e2 := sorted_plc (ofK k l) (st ++ [O.lst (acc.map Plc.D)])
    have hf : ((ofK k l).mergeSort leP).length = (ofK k l).length := List.length_mergeSort _
    obtain ⟨x', e3⟩ := put_all (n1 := n) (st := st) (x0 := some (.loc n)) (x2 := some (.str k)) (x4 := none) ((ofK k l).mergeSort leP) acc x (by omega)
    refine ⟨x', ?_⟩
    refine sFor_ok (b := ⟨fun _ => True, ((ofK k l).mergeSort leP).map Plc.D⟩) (st' := st ++ [.lst (acc.map Plc.D)]) (by rw [cItl_ap, cS1_ap, e1, R.bind_ok, e2, R.bind_ok]) ?_
    refine e3.trans ?_
    rw [addAll_dis (fun p hp z => hd p z (by
      have := (List.mergeSort_perm _ _).mem_iff.mp hp
      simpa [ofK] using (List.mem_filter.mp this).2)), SK_dedup]
  refine def_pure (g := [.lst ((ordL l).map Plc.D)]) rfl ?_ (belowAll_plc _ _)
  have kd : ∀ {k : Str} {p : Plc}, p ∈ SK k l → p.kind = k := fun h => (SK_mem.mp h).2
  obtain ⟨y1, s1⟩ := step "value" none [] (by simp only [List.length_nil]; omega) (by simp)
  obtain ⟨y2, s2⟩ := step "field" y1 ([] ++ SK "value" l) (by simp; omega) (fun p hp => by
    rw [List.nil_append] at hp; rw [kd hp]; decide +kernel)
  obtain ⟨y3, s3⟩ := step "things" y2 ([] ++ SK "value" l ++ SK "field" l) (by simp; omega) (fun p hp => by
    rw [List.nil_append, List.mem_append] at hp
    rcases hp with hp | hp <;> rw [kd hp] <;> decide +kernel)
  unfold b__law_sorted
  refine sSeq_nx (ρ' := [some (.loc n), some (.loc st.length), none, none, none]) (st' := st ++ [.lst []]) (by simp) ?_
  refine sSeq_nx (ρ' := [some (.loc n), some (.loc st.length), some (.str "things"), y3, none]) (st' := st ++ [.lst ((ordL l).map Plc.D)]) ?_ ?_
  · refine sFor_ok (b := ⟨fun _ => True, [.str "value", .str "field", .str "things"]⟩) (st' := st ++ [.lst []]) (by simp) ?_
    refine (forGo_cons trivial rfl (.inl s1)).trans ?_
    refine (forGo_cons trivial rfl (.inl s2)).trans ?_
    refine (forGo_cons trivial rfl (.inl s3)).trans ?_
    refine (forGo_nil trivial).trans ?_
    simp [ordL, kinds]
  · simp [seqD, tupS]
/-! told -/
def knI (ks : List Nat) : List Int := sortI (ks.map fun (n : Nat) => (n : Int))
theorem intsD_nat : ∀ ks : List Nat, intsD (ks.map natD) = some (ks.map fun (n : Nat) => (n : Int))
  | [] => rfl
  | n :: r => by rw [List.map_cons, natD, intsD, intsD_nat r]; rfl
theorem below_ints (N : Nat) : ∀ l : List Int, belowAll N (l.map D.int) = true
  | [] => rfl
  | i :: r => by rw [List.map_cons, belowAll, below_ints N r]; rfl
def toldD (looks changes : List Plc) (draws tells : Bool) (knobs : List Nat) : D := .tup [.str "touches", .tup ((ordL looks).map Plc.D), .tup ((ordL changes).map Plc.D), .bl draws, .bl tells, .tup ((knI knobs).map .int)]
theorem told_ok {o l c k : Nat} {w : D} {es : List Nat} {t : T} (h : TAt o l c k w es st t) (h1 : t.looks.Nodup) (h2 : t.changes.Nodup) (z1 : t.looks.length ≤ 12000000) (z2 : t.changes.length ≤ 12000000) : m_Touch_told [.loc o] st = .ok (toldD t.looks t.changes t.draws t.tells t.knobs) st := by
  have f3 := fldT h (tl3 _ _ _ _ _ _ _)
  have f4 := fldT h (tl4 _ _ _ _ _ _ _)
  have f5 := fldT h (tl5 _ _ _ _ _ _ _)
  have f6 := fldT h (tl6 _ _ _ _ _ _ _)
  have f7 := fldT h (tl7 _ _ _ _ _ _ _)
  have e1 := ordered_ok h.hl h1 z1
  have e2 := ordered_ok h.hc h2 z2
  have e3 : sortedAS (t.knobs.map natD) st = .ok ((knI t.knobs).map .int) st := by
    unfold sortedAS; rw [intsD_nat]; rfl
  refine def_rt rfl (ρ0 := [some (.loc o), none]) ?_ rfl
  unfold b_Touch_told
  refine sSeq_nx (ρ' := [some (.loc o), some (.tup ((knI t.knobs).map .int))]) (st' := st) (by simp [f7, lstD_at h.hk, e3, tupS]) ?_
  simp [f3, f4, f5, f6, e1, e2, toldD]
end
end PMl

set_option Elab.async false
set_option linter.all false
set_option maxRecDepth 100000
set_option maxHeartbeats 1000000
/-! the plain law of k95, 8: touches. -/
namespace PMl
open PySem PM L2
theorem get_at0 {st g : Sto} {o : O} : (st ++ o :: g)[st.length]? = some o := get_new
theorem get_atk {st g : Sto} {o : O} {k : Nat} : (st ++ o :: g)[st.length + (k + 1)]? = g[k]? := by
  rw [List.getElem?_append_right (by omega)]
  have : st.length + (k + 1) - st.length = k + 1 := by omega
  rw [this, List.getElem?_cons_succ]
theorem set_at0 {st g : Sto} {o o' : O} : (st ++ o :: g).set st.length o' = st ++ o' :: g := by
  rw [List.set_append_right _ _ (Nat.le_refl _), Nat.sub_self]; rfl
theorem mk_fld {ρ : PM.Env} {st g g' : Sto} {f : Str} {e : E} {d : D} {fs : List (Str × D)} {cs : List Nat} {c : Nat} (h0 : ρ[0]? = some (some (.loc st.length))) (hc : c ∈ cs) (hl : fs.length < 1000) (he : e ρ (st ++ .ins c fs :: g) = .ok d (st ++ .ins c fs :: g')) :
    sFldD cs f (cVar 0) e ρ (st ++ .ins c fs :: g) = .nx ρ (st ++ .ins c (putFD f d fs) :: g') := by
  rw [sFldD_ap, he]
  simp [h0, get_at0, hc, hl, set_at0]
theorem init_ok (st : Sto) (w es : D) : m_Touch_init [.loc st.length, w, es] (st ++ [.ins 0 []]) = .ok .non (st ++ [.ins 0 (tF w es (.loc (st.length + 1)) (.loc (st.length + 2)) false false (.loc (st.length + 3))), .lst [], .lst [], .lst []]) := by
  have key : b_Touch_init [some (.loc st.length), some w, some es] (st ++ [.ins 0 []]) = .nx [some (.loc st.length), some w, some es] (st ++ [.ins 0 (tF w es (.loc (st.length + 1)) (.loc (st.length + 2)) false false (.loc (st.length + 3))), .lst [], .lst [], .lst []]) := by
    unfold b_Touch_init
    refine sSeq_nx (mk_fld rfl (by simp) (by simp) (g' := []) (d := w) (by simp)) ?_
    refine sSeq_nx (mk_fld rfl (by simp) (by simp [putFD]) (g' := []) (d := es) (by simp)) ?_
    refine sSeq_nx (mk_fld rfl (by simp) (by simp [putFD]) (g' := [.lst []]) (d := .loc (st.length + 1)) (by simp)) ?_
    refine sSeq_nx (mk_fld rfl (by simp) (by simp [putFD]) (g' := [.lst [], .lst []]) (d := .loc (st.length + 2)) (by simp)) ?_
    refine sSeq_nx (mk_fld rfl (by simp) (by simp [putFD]) (g' := [.lst [], .lst []]) (d := .bl false) (by simp)) ?_
    refine sSeq_nx (mk_fld rfl (by simp) (by simp [putFD]) (g' := [.lst [], .lst []]) (d := .bl false) (by simp)) ?_
    refine (mk_fld rfl (by simp) (by simp [putFD]) (g' := [.lst [], .lst [], .lst []]) (d := .loc (st.length + 3)) (by simp)).trans ?_
    kernel_rfl
  show gcR (st ++ [.ins 0 []]) (outR (b_Touch_init [some (.loc st.length), some w, some es] (st ++ [.ins 0 []]))) = _
  rw [key]
  refine gcR_new (n := st.length) (by simp) ?_
  rw [get_at0, get_at0]
  intro z
  have z := Option.some.inj z
  simp [tF] at z
theorem pre_of {o l c k : Nat} {st g st' : Sto} (h : Tk o l c k (st ++ g) st') (ho : st.length ≤ o) (hl : st.length ≤ l) (hc : st.length ≤ c) (hk : st.length ≤ k) : ∃ g', st' = st ++ g' := by
  refine ⟨st'.drop st.length, ?_⟩
  have e : st'.take st.length = st := by
    apply List.ext_getElem?
    intro i
    rw [List.getElem?_take]
    split
    · rename_i hi
      rw [h.eq i (by omega) (by omega) (by omega) (by omega), List.getElem?_append_left hi]
    · rename_i hi
      rw [List.getElem?_eq_none (by omega)]
  have := List.take_append_drop st.length st'
  rw [e] at this
  exact this.symm
/-! a rule -/
structure Rl where
  (name : D) (es : List Nat) (cond : Option Ex) (body : List St)
def condD : Option Ex → D
  | none => .non
  | some e => e.D
def Rl.D (r : Rl) : D := .tup [.str "rule", r.name, .tup (r.es.map natD), condD r.cond, .tup (bodyD r.body)]
def condLook (es : List Nat) : Option Ex → List Plc
  | none => []
  | some e => e.look es
def condKnobs : Option Ex → List Nat
  | none => []
  | some e => e.knobs
def condDraws : Option Ex → Bool
  | none => false
  | some e => e.draws
def condSize : Option Ex → Nat
  | none => 0
  | some e => e.size
def Rl.look (r : Rl) : List Plc := r.es.map Plc.thg ++ condLook r.es r.cond ++ bodyLook r.es r.body
def Rl.chg (r : Rl) (tabs : List Nat) : List Plc := bodyChg r.es tabs r.body
def Rl.draws (r : Rl) : Bool := condDraws r.cond || bodyDraws r.body
def Rl.tells (r : Rl) : Bool := bodyTells r.body
def Rl.knobs (r : Rl) : List Nat := condKnobs r.cond ++ bodyKnobs r.body
def Rl.size (r : Rl) : Nat := r.es.length + condSize r.cond + bodySize r.body
structure Rl.ok (d : Dims) (r : Rl) : Prop where
  es : ∀ t ∈ r.es, t < d.tabs.length
  cond : ∀ e, r.cond = some e → e.ok d r.es ∧ e.dep ≤ 15
  body : bodyOk d r.es r.body ∧ bodyDep r.body ≤ 15
  size : r.size ≤ 1000000
section
open Classical
theorem each_thing {o l c k : Nat} {w w' ix cd bd : D} {es : List Nat} {x2 : Option D} : ∀ (ts : List Nat) (st : Sto) (t : T) (x : Option D), TAt o l c k w es st t → t.looks.length + ts.length ≤ 16000000 → ∃ st' x',
    forGo (fun _ => True) (gN 7) (sExp (cMeth 0 "look" m_Touch_look (cVar 6) [(cTup [(cC (.str "things")), (cVar 7)])])) (ts.map natD) [some w', some ix, x2, some (.tup (es.map natD)), some cd, some bd, some (.loc o), x] st
      = .nx [some w', some ix, x2, some (.tup (es.map natD)), some cd, some bd, some (.loc o), x'] st' ∧ TAt o l c k w es st' { t with looks := addAll t.looks (ts.map Plc.thg) } ∧ Tk o l c k st st'
  | [], st, t, x, h, _ => ⟨st, x, by rw [List.map_nil, forGo_nil trivial], by simpa [addAll] using h, Tk.refl⟩
  | q :: r, st, t, x, h, hz => by
    simp only [List.length_cons] at hz
    obtain ⟨st1, e1, t1, k1⟩ := look_ok h (by omega) (.thg q)
    have e1 : m_Touch_look [.loc o, .tup [.str "things", natD q]] st = .ok .non st1 := e1
    have := addN_len t.looks (.thg q)
    obtain ⟨st2, x', e2, t2, k2⟩ := each_thing (w' := w') (ix := ix) (cd := cd) (bd := bd) (x2 := x2) r st1 _ (some (natD q)) t1 (by simp only; omega)
    refine ⟨st2, x', ?_, ?_, k1.trans k2⟩
    · rw [List.map_cons, forGo_cons (ρ1 := [some w', some ix, x2, some (.tup (es.map natD)), some cd, some bd, some (.loc o), some (natD q)]) (ρ2 := [some w', some ix, x2, some (.tup (es.map natD)), some cd, some bd, some (.loc o), some (natD q)]) (st2 := st1) trivial rfl (.inl ?_)]
      · exact e2
      · simp [-List.lookup_eq_none_iff, h.ho, e1]
    · simpa [addAll] using t2
theorem touches_ok {w : D} {d : Dims} {rs : List D} {j : Nat} {r : Rl} (st : Sto) (hw : WAt w d) (h8 : ∀ s, getD w (.int 8) s = .ok (.tup rs) s) (hj : rs[j]? = some r.D) (hr : r.ok d) :
    m_touches [w, .int (j : Int)] st = .ok (toldD (addAll [] r.look) (addAll [] (r.chg d.tabs)) r.draws r.tells (addKs [] r.knobs)) st := by
  have N1 : (st ++ [O.ins 0 (tF w (.tup (r.es.map natD)) (.loc (st.length + 1)) (.loc (st.length + 2)) false false (.loc (st.length + 3))), .lst [], .lst [], .lst []])[st.length]? = _ := get_at0
  have sz := hr.size
  unfold Rl.size at sz
  have t0 : TAt st.length (st.length + 1) (st.length + 2) (st.length + 3) w r.es (st ++ [O.ins 0 (tF w (.tup (r.es.map natD)) (.loc (st.length + 1)) (.loc (st.length + 2)) false false (.loc (st.length + 3))), .lst [], .lst [], .lst []]) ⟨[], [], false, false, []⟩ :=
    ⟨N1, get_atk (k := 0), get_atk (k := 1), get_atk (k := 2), by omega⟩
  obtain ⟨st1, x1, e1, t1, k1⟩ := each_thing (w' := w) (ix := .int (j : Int)) (cd := condD r.cond) (bd := .tup (bodyD r.body)) (x2 := some r.name) r.es _ _ none t0 (by simp only [List.length_nil]; omega)
  have g1 := addAll_len (r.es.map Plc.thg) []
  rw [List.length_map, List.length_nil] at g1
  have cnd : ∃ st2, (sIf (cTst (cOp2 notND (cVar 4) (cC .non))) (sExp (cMeth 0 "expression" (m_Touch_expression 30) (cVar 6) [(cVar 4)])) sNext) [some w, some (.int (j : Int)), some r.name, some (.tup (r.es.map natD)), some (condD r.cond), some (.tup (bodyD r.body)), some (.loc st.length), x1] st1
      = .nx [some w, some (.int (j : Int)), some r.name, some (.tup (r.es.map natD)), some (condD r.cond), some (.tup (bodyD r.body)), some (.loc st.length), x1] st2
      ∧ TAt st.length (st.length + 1) (st.length + 2) (st.length + 3) w r.es st2 { looks := addAll [] (r.es.map Plc.thg ++ condLook r.es r.cond), changes := [], draws := condDraws r.cond, tells := false, knobs := addKs [] (condKnobs r.cond) } ∧ Tk st.length (st.length + 1) (st.length + 2) (st.length + 3) st1 st2 := by
    cases hc : r.cond with
    | none =>
      refine ⟨st1, ?_, ?_, Tk.refl⟩
      · simp [condD, notND]
      · simpa [condLook, condDraws, condKnobs, addKs] using t1
    | some e =>
      obtain ⟨q1, q2⟩ := hr.cond e hc
      rw [hc] at sz
      simp only [condSize] at sz
      obtain ⟨st2, e2, t2, k2⟩ := expr_ok e 30 (by omega) q1 st1 _ t1 (by simp only; omega) (by simp only [List.length_nil]; omega)
      have e2 : m_Touch_expression 30 [.loc st.length, e.D] st1 = .ok .non st2 := e2
      refine ⟨st2, ?_, ?_, k2⟩
      · have hn : ∀ s, notND e.D .non s = .ok (.bl true) s := fun s => by cases e <;> rfl
        simp [-List.lookup_eq_none_iff, condD, hn, t1.ho, e2]
      · simpa [touchE, condLook, condDraws, condKnobs, addKs, addAll_app] using t2
  obtain ⟨st2, e2, t2, k2⟩ := cnd
  have g2 := addAll_len (r.es.map Plc.thg ++ condLook r.es r.cond) []
  have g3 : (condLook r.es r.cond).length ≤ condSize r.cond := by
    cases r.cond with
    | none => simp [condLook]
    | some e => exact look_size _ e
  have g4 : (condKnobs r.cond).length ≤ condSize r.cond := by
    cases r.cond with
    | none => simp [condKnobs]
    | some e => exact knobs_size e
  have g5 := addKs_len (condKnobs r.cond) []
  rw [List.length_append, List.length_map, List.length_nil] at g2
  rw [List.length_nil] at g5
  obtain ⟨st3, e3, t3, k3⟩ := body_ok hw r.body 60 (by have := hr.body.2; omega) hr.body.2 hr.body.1 st2 _ t2 ⟨by simp only; omega, by simp only [List.length_nil]; omega, by simp only; omega⟩
  have e3 : m_Touch_body 60 [.loc st.length, .tup (bodyD r.body)] st2 = .ok .non st3 := e3
  have g6 := bodyLook_size r.es r.body
  have g7 := bodyChg_size r.body hr.body.1
  have g8 := addAll_len (bodyLook r.es r.body) (addAll [] (r.es.map Plc.thg ++ condLook r.es r.cond))
  have g9 := addAll_len (bodyChg r.es d.tabs r.body) []
  rw [List.length_nil] at g9
  have e4 := told_ok t3 (addAll_nodup (addAll_nodup List.nodup_nil)) (addAll_nodup List.nodup_nil) (by simp only [touchB]; omega) (by simp only [touchB]; omega)
  obtain ⟨g, eg⟩ := pre_of ((k1.trans k2).trans k3) (by omega) (by omega) (by omega) (by omega)
  have fin : toldD (touchB r.es d.tabs r.body { looks := addAll [] (r.es.map Plc.thg ++ condLook r.es r.cond), changes := [], draws := condDraws r.cond, tells := false, knobs := addKs [] (condKnobs r.cond) }).looks (touchB r.es d.tabs r.body { looks := addAll [] (r.es.map Plc.thg ++ condLook r.es r.cond), changes := [], draws := condDraws r.cond, tells := false, knobs := addKs [] (condKnobs r.cond) }).changes (touchB r.es d.tabs r.body { looks := addAll [] (r.es.map Plc.thg ++ condLook r.es r.cond), changes := [], draws := condDraws r.cond, tells := false, knobs := addKs [] (condKnobs r.cond) }).draws (touchB r.es d.tabs r.body { looks := addAll [] (r.es.map Plc.thg ++ condLook r.es r.cond), changes := [], draws := condDraws r.cond, tells := false, knobs := addKs [] (condKnobs r.cond) }).tells (touchB r.es d.tabs r.body { looks := addAll [] (r.es.map Plc.thg ++ condLook r.es r.cond), changes := [], draws := condDraws r.cond, tells := false, knobs := addKs [] (condKnobs r.cond) }).knobs = toldD (addAll [] r.look) (addAll [] (r.chg d.tabs)) r.draws r.tells (addKs [] r.knobs) := by
    simp only [touchB, Rl.look, Rl.chg, Rl.draws, Rl.tells, Rl.knobs, addAll_app, addKs_app, Bool.false_or]
  rw [fin] at e4
  refine def_pure (ρ0 := [some w, some (.int (j : Int)), none, none, none, none, none, none]) (g := g) rfl ?_ (by simp [toldD, below, belowAll, belowAll_plc, below_ints])
  rw [← eg]
  unfold b_touches
  refine sSeq_nx (ρ' := [some w, some (.int (j : Int)), some r.name, some (.tup (r.es.map natD)), some (condD r.cond), some (.tup (bodyD r.body)), none, none]) (st' := st) ?_ ?_
  · have hx : atD rs (.int (j : Int)) st = .ok r.D st := atD_nat st hj
    simp [h8, hx, Rl.D, gT, gsCons, gN, gsNil]
  refine sSeq_nx (ρ' := [some w, some (.int (j : Int)), some r.name, some (.tup (r.es.map natD)), some (condD r.cond), some (.tup (bodyD r.body)), some (.loc st.length), none]) (st' := (st ++ [O.ins 0 (tF w (.tup (r.es.map natD)) (.loc (st.length + 1)) (.loc (st.length + 2)) false false (.loc (st.length + 3))), .lst [], .lst [], .lst []])) ?_ ?_
  · simp [init_ok, nonTo]
  refine sSeq_nx (ρ' := [some w, some (.int (j : Int)), some r.name, some (.tup (r.es.map natD)), some (condD r.cond), some (.tup (bodyD r.body)), some (.loc st.length), x1]) (st' := st1) ?_ ?_
  · exact sFor_ok (b := ⟨fun _ => True, r.es.map natD⟩) (cItr_tup (by simp)) e1
  refine sSeq_nx e2 ?_
  refine sSeq_nx (ρ' := [some w, some (.int (j : Int)), some r.name, some (.tup (r.es.map natD)), some (condD r.cond), some (.tup (bodyD r.body)), some (.loc st.length), x1]) (st' := st3) (by simp [-List.lookup_eq_none_iff, t2.ho, e3]) ?_
  simp [-List.lookup_eq_none_iff, t3.ho, e4]
end
end PMl

set_option Elab.async false
set_option linter.all false
set_option maxRecDepth 100000
set_option maxHeartbeats 1000000
/-! the plain law of k95, 9: the law's own nodes and places. -/
namespace PMl
open PySem PM L2
inductive Nd where
  | e (x : Ex) | s (x : St) | p (x : Pl)
def Nd.D : Nd → D
  | .e x => x.D | .s x => x.D | .p x => x.D
def Ex.nodes : Ex → List Nd
  | .val v => [.e (.val v)]
  | .fld k f => [.e (.fld k f)]
  | .cnt t => [.e (.cnt t)]
  | .tick => [.e .tick]
  | .num n => [.e (.num n)]
  | .not e => .e (.not e) :: e.nodes
  | .drw e => .e (.drw e) :: e.nodes
  | .mov e b => .e (.mov e b) :: e.nodes
  | .past k f e => .e (.past k f e) :: e.nodes
  | .op s a b => .e (.op s a b) :: (a.nodes ++ b.nodes)
mutual
def St.nodes : St → List Nd
  | .set p e => .s (.set p e) :: .p p :: e.nodes
  | .make t es => .s (.make t es) :: es.flatMap Ex.nodes
  | .drop k => [.s (.drop k)]
  | .tell m e => .s (.tell m e) :: e.nodes
  | .iff e a b => .s (.iff e a b) :: (e.nodes ++ bodyNodes a ++ bodyNodes b)
def bodyNodes : List St → List Nd
  | [] => []
  | s :: r => s.nodes ++ bodyNodes r
end
theorem nodes_size : ∀ e : Ex, e.nodes.length = e.size
  | .val _ => rfl | .fld _ _ => rfl | .cnt _ => rfl | .tick => rfl | .num _ => rfl
  | .not e => by have := nodes_size e; simp [Ex.nodes, Ex.size]; omega
  | .drw e => by have := nodes_size e; simp [Ex.nodes, Ex.size]; omega
  | .mov e _ => by have := nodes_size e; simp [Ex.nodes, Ex.size]; omega
  | .past _ _ e => by have := nodes_size e; simp [Ex.nodes, Ex.size]; omega
  | .op _ a b => by have := nodes_size a; have := nodes_size b; simp [Ex.nodes, Ex.size]; omega
theorem nodes_sizes : ∀ xs : List Ex, (xs.flatMap Ex.nodes).length = sizes xs
  | [] => rfl
  | e :: r => by
    have := nodes_sizes r; have := nodes_size e
    rw [List.flatMap_cons, List.length_append, sizes]; omega
mutual
theorem St.nodes_size : ∀ s : St, s.nodes.length = s.size
  | .set _ e => by have := PMl.nodes_size e; simp [St.nodes, St.size]; omega
  | .make _ xs => by have := nodes_sizes xs; simp only [St.nodes, St.size, List.length_cons]; omega
  | .drop _ => by simp [St.nodes, St.size]
  | .tell _ e => by have := PMl.nodes_size e; simp [St.nodes, St.size]; omega
  | .iff e a b => by
    have := PMl.nodes_size e; have := bodyNodes_size a; have := bodyNodes_size b
    simp [St.nodes, St.size]; omega
theorem bodyNodes_size : ∀ b : List St, (bodyNodes b).length = bodySize b
  | [] => rfl
  | s :: r => by have := St.nodes_size s; have := bodyNodes_size r; simp [bodyNodes, bodySize]; omega
end
/-- what _law_nodes puts behind the list -/
def Walks (n : Nat) (d : D) (ns : List Nd) : Prop := ∀ (st : Sto) (f : Nat) (xs : List D), st[f]? = some (.lst xs) → xs.length + ns.length ≤ 12000000 → m__law_nodes n [d, .loc f] st = .ok (.loc f) (st.set f (.lst (xs ++ ns.map Nd.D)))
theorem walks_leaf {n : Nat} {d : D} (h : ∀ st, isiD .tuple d st = .ok (.bl false) st) : Walks (n + 1) d [] := by
  intro st f xs hf hz
  show mDef 3 (b__law_nodes (m__law_nodes n)) _ _ = _
  rw [List.map_nil, List.append_nil, set_self hf]
  refine def_rt (ρ0 := [some d, some (.loc f), none]) rfl ?_ rfl
  unfold b__law_nodes
  refine sSeq_nx (ρ' := [some d, some (.loc f), none]) (st' := st) (by simp [h, truD]) (by simp)
theorem walks_int {n : Nat} {i : Int} : Walks (n + 1) (.int i) [] := walks_leaf fun _ => rfl
theorem walks_str {n : Nat} {i : Str} : Walks (n + 1) (.str i) [] := walks_leaf fun _ => rfl
theorem walks_non {n : Nat} : Walks (n + 1) .non [] := walks_leaf fun _ => rfl
theorem each_node {n : Nat} {d : D} {f : Nat} : ∀ (ps : List (D × List Nd)) (st : Sto) (xs : List D) (x : Option D), (∀ p ∈ ps, Walks n p.1 p.2) → st[f]? = some (.lst xs) → xs.length + (ps.flatMap (·.2)).length ≤ 12000000 → ∃ x',
    forGo (fun _ => True) (gN 2) (sExp (cCall (m__law_nodes n) [(cVar 2), (cVar 1)])) (ps.map (·.1)) [some d, some (.loc f), x] st = .nx [some d, some (.loc f), x'] (st.set f (.lst (xs ++ (ps.flatMap (·.2)).map Nd.D)))
  | [], st, xs, x, _, hf, _ => ⟨x, by
    rw [List.map_nil, forGo_nil trivial]
    simp [set_self hf]⟩
  | p :: r, st, xs, x, hp, hf, hz => by
    rw [List.flatMap_cons, List.length_append] at hz
    have e1 := hp p List.mem_cons_self st f xs hf (by omega)
    obtain ⟨x', e2⟩ := each_node (n := n) (d := d) r (st.set f (.lst (xs ++ p.2.map Nd.D))) (xs ++ p.2.map Nd.D) (some p.1) (fun q hq => hp q (List.mem_cons_of_mem _ hq)) (get_set_eq hf) (by simp only [List.length_append, List.length_map]; omega)
    refine ⟨x', ?_⟩
    rw [List.map_cons, forGo_cons (ρ1 := [some d, some (.loc f), some p.1]) (ρ2 := [some d, some (.loc f), some p.1]) (st2 := st.set f (.lst (xs ++ p.2.map Nd.D))) trivial rfl (.inl (by simp [e1]))]
    rw [e2, List.set_set]
    simp
theorem walks_tup {n : Nat} (ps : List (D × List Nd)) (h0 : ps ≠ []) (hs : ∀ p r, ps = p :: r → ∀ st, isiD .str p.1 st = .ok (.bl false) st) (hp : ∀ p ∈ ps, Walks n p.1 p.2) : Walks (n + 1) (.tup (ps.map (·.1))) (ps.flatMap (·.2)) := by
  intro st f xs hf hz
  obtain ⟨x', e⟩ := each_node (d := .tup (ps.map (·.1))) ps st xs none hp hf hz
  show mDef 3 (b__law_nodes (m__law_nodes n)) _ _ = _
  refine def_rt (ρ0 := [some (.tup (ps.map (·.1))), some (.loc f), none]) rfl ?_ (by simp)
  unfold b__law_nodes
  refine sSeq_nx (ρ' := [some (.tup (ps.map (·.1))), some (.loc f), x']) (st' := st.set f (.lst (xs ++ (ps.flatMap (·.2)).map Nd.D))) ?_ (by simp)
  obtain ⟨p, r, rfl⟩ : ∃ p r, ps = p :: r := by
    cases ps with
    | nil => exact absurd rfl h0
    | cons p r => exact ⟨p, r, rfl⟩
  have l0 : lenD (.tup ((p :: r).map (·.1))) st = .ok (.int ((r.length + 1 : Nat) : Int)) st := by simp [lenD]
  refine sIf_true (st' := st) (by simp [isiD, tyD, Ty.sub, truD, l0, lenD, gtD]) ?_
  refine sSeq_nx (ρ' := [some (.tup ((p :: r).map (·.1))), some (.loc f), none]) (st' := st) (by simp [hs p r rfl, truD]) ?_
  exact sFor_ok (b := ⟨fun _ => True, (p :: r).map (·.1)⟩) (cItr_tup (by simp)) e
theorem walks_none {n : Nat} : Walks (n + 1) (.tup []) [] := by
  intro st f xs hf hz
  show mDef 3 (b__law_nodes (m__law_nodes n)) _ _ = _
  rw [List.map_nil, List.append_nil, set_self hf]
  refine def_rt (ρ0 := [some (.tup []), some (.loc f), none]) rfl ?_ rfl
  unfold b__law_nodes
  refine sSeq_nx (ρ' := [some (.tup []), some (.loc f), none]) (st' := st) (by simp [isiD, tyD, Ty.sub, truD, lenD, gtD]) (by simp)
theorem walks_node {n : Nat} {s : Str} {nd : Nd} (ps : List (D × List Nd)) (e : nd.D = .tup (.str s :: ps.map (·.1))) (hp : ∀ p ∈ ps, Walks n p.1 p.2) (hn : 0 < n) : Walks (n + 1) (.tup (.str s :: ps.map (·.1))) (nd :: ps.flatMap (·.2)) := by
  obtain ⟨m, rfl⟩ : ∃ m, n = m + 1 := ⟨n - 1, by omega⟩
  intro st f xs hf hz
  rw [List.length_cons] at hz
  obtain ⟨x', e2⟩ := each_node (n := m + 1) (d := nd.D) ((.str s, []) :: ps) (st.set f (.lst (xs ++ [nd.D]))) (xs ++ [nd.D]) none (fun p hq => by
    rcases List.mem_cons.mp hq with q | q
    · subst q; exact walks_str
    · exact hp p q) (get_set_eq hf) (by rw [List.flatMap_cons]; simp only [List.nil_append, List.length_append, List.length_singleton]; omega)
  show mDef 3 (b__law_nodes (m__law_nodes (m + 1))) _ _ = _
  rw [← e]
  refine def_rt (ρ0 := [some nd.D, some (.loc f), none]) rfl ?_ (by simp)
  unfold b__law_nodes
  refine sSeq_nx (ρ' := [some nd.D, some (.loc f), x']) (st' := st.set f (.lst (xs ++ (nd :: ps.flatMap (·.2)).map Nd.D))) ?_ (by simp)
  have ha := appD_at (y := nd.D) hf (by omega)
  refine sIf_true (st' := st) (by simp [e, isiD, tyD, Ty.sub, truD, lenD, gtD]) ?_
  refine sSeq_nx (ρ' := [some nd.D, some (.loc f), none]) (st' := st.set f (.lst (xs ++ [nd.D]))) ?_ ?_
  · refine sIf_true (st' := st) (by simp [e, isiD, tyD, Ty.sub, truD]) ?_
    exact sExp_ok (d := .non) (by simp [lstD_at hf, ha])
  refine sFor_ok (b := ⟨fun _ => True, .str s :: ps.map (·.1)⟩) (st' := st.set f (.lst (xs ++ [nd.D]))) (cItr_tup (by rw [cVar_ap]; simp only [List.getElem?_cons_zero]; rw [e])) ?_
  rw [List.map_cons, List.set_set] at e2
  rw [e2]
  simp
theorem Walks.up {n m : Nat} {d : D} {ns : List Nd} (h : Walks n d ns) (e : n = m) : Walks m d ns := e ▸ h
theorem walks_ex : ∀ (e : Ex) (n : Nat), e.dep + 1 ≤ n → Walks n e.D e.nodes := by
  intro e
  induction e with
  | val v => intro n h; obtain ⟨m, rfl⟩ : ∃ m, n = m + 1 + 1 := ⟨n - 2, by simp [Ex.dep] at h; omega⟩; exact walks_node (nd := .e (.val v)) [(.int v, [])] rfl (by simp; exact walks_int) (by omega)
  | fld k f => intro n h; obtain ⟨m, rfl⟩ : ∃ m, n = m + 1 + 1 := ⟨n - 2, by simp [Ex.dep] at h; omega⟩; exact walks_node (nd := .e (.fld k f)) [(.int k, []), (.int f, [])] rfl (by simp; exact ⟨walks_int, walks_int⟩) (by omega)
  | cnt v => intro n h; obtain ⟨m, rfl⟩ : ∃ m, n = m + 1 + 1 := ⟨n - 2, by simp [Ex.dep] at h; omega⟩; exact walks_node (nd := .e (.cnt v)) [(.int v, [])] rfl (by simp; exact walks_int) (by omega)
  | tick => intro n h; obtain ⟨m, rfl⟩ : ∃ m, n = m + 1 + 1 := ⟨n - 2, by simp [Ex.dep] at h; omega⟩; exact walks_node (nd := .e .tick) [] rfl (by simp) (by omega)
  | num v => intro n h; obtain ⟨m, rfl⟩ : ∃ m, n = m + 1 + 1 := ⟨n - 2, by simp [Ex.dep] at h; omega⟩; exact walks_node (nd := .e (.num v)) [(.int v, [])] rfl (by simp; exact walks_int) (by omega)
  | not e ih => intro n h; obtain ⟨m, rfl⟩ : ∃ m, n = m + 1 + 1 := ⟨n - 2, by simp [Ex.dep] at h; omega⟩; simp only [Ex.dep] at h; simpa [Ex.nodes, Ex.D] using walks_node (nd := .e (.not e)) [(e.D, e.nodes)] rfl (by simp; exact ih (m + 1) (by omega)) (by omega)
  | drw e ih => intro n h; obtain ⟨m, rfl⟩ : ∃ m, n = m + 1 + 1 := ⟨n - 2, by simp [Ex.dep] at h; omega⟩; simp only [Ex.dep] at h; simpa [Ex.nodes, Ex.D] using walks_node (nd := .e (.drw e)) [(e.D, e.nodes)] rfl (by simp; exact ih (m + 1) (by omega)) (by omega)
  | mov e b ih => intro n h; obtain ⟨m, rfl⟩ : ∃ m, n = m + 1 + 1 := ⟨n - 2, by simp [Ex.dep] at h; omega⟩; simp only [Ex.dep] at h; simpa [Ex.nodes, Ex.D] using walks_node (nd := .e (.mov e b)) [(e.D, e.nodes), (.int b, [])] rfl (by simp; exact ⟨ih (m + 1) (by omega), walks_int⟩) (by omega)
  | past k f e ih => intro n h; obtain ⟨m, rfl⟩ : ∃ m, n = m + 1 + 1 := ⟨n - 2, by simp [Ex.dep] at h; omega⟩; simp only [Ex.dep] at h; simpa [Ex.nodes, Ex.D] using walks_node (nd := .e (.past k f e)) [(.int k, []), (.int f, []), (e.D, e.nodes)] rfl (by simp; exact ⟨walks_int, walks_int, ih (m + 1) (by omega)⟩) (by omega)
  | op s a b iha ihb => intro n h; obtain ⟨m, rfl⟩ : ∃ m, n = m + 1 + 1 := ⟨n - 2, by simp [Ex.dep] at h; omega⟩; simp only [Ex.dep] at h; simpa [Ex.nodes, Ex.D] using walks_node (nd := .e (.op s a b)) [(.str s, []), (a.D, a.nodes), (b.D, b.nodes)] rfl (by simp; exact ⟨walks_str, iha (m + 1) (by omega), ihb (m + 1) (by omega)⟩) (by omega)
theorem walks_pl (p : Pl) (n : Nat) : Walks (n + 2) p.D [.p p] := by
  cases p with
  | val v => exact walks_node (nd := .p (.val v)) [(.int v, [])] rfl (by simp; exact walks_int) (by omega)
  | fld k f => exact walks_node (nd := .p (.fld k f)) [(.int k, []), (.int f, [])] rfl (by simp; exact ⟨walks_int, walks_int⟩) (by omega)
theorem exD_tup (e : Ex) : ∃ xs, e.D = .tup xs := by cases e <;> exact ⟨_, rfl⟩
theorem stD_tup (s : St) : ∃ xs, s.D = .tup xs := by cases s <;> simp [St.D]
/-- a tuple of tuples -/
theorem walks_list {α : Type} {n : Nat} (f : α → D) (g : α → List Nd) (ht : ∀ x, ∃ xs, f x = .tup xs) (l : List α) (h : ∀ x ∈ l, Walks n (f x) (g x)) : Walks (n + 1) (.tup (l.map f)) (l.flatMap g) := by
  cases l with
  | nil => exact walks_none
  | cons x r =>
    have := walks_tup (n := n) ((x :: r).map fun x => (f x, g x)) (by simp) (fun p r' e st => by
      simp at e
      obtain ⟨xs, q⟩ := ht x
      rw [← e.1]
      simp [q, isiD, tyD, Ty.sub]) (fun p hp => by
      obtain ⟨y, hy, rfl⟩ := List.mem_map.mp hp
      exact h y hy)
    simpa [List.map_map, Function.comp_def, List.flatMap_map] using this
theorem dep_mem {e : Ex} : ∀ {ys : List Ex}, e ∈ ys → e.dep ≤ maxDep ys
  | y :: ys, h => by
    rcases List.mem_cons.mp h with z | z
    · subst z; simp [maxDep]; omega
    · have := dep_mem z; simp [maxDep]; omega
theorem bodyNodes_flat : ∀ b : List St, bodyNodes b = b.flatMap St.nodes
  | [] => rfl
  | s :: r => by rw [bodyNodes, bodyNodes_flat r, List.flatMap_cons]
mutual
theorem walks_st : ∀ (s : St) (n : Nat), 2 * s.dep + 2 ≤ n → Walks n s.D s.nodes
  | .set p e, n, h => by
    obtain ⟨m, rfl⟩ : ∃ m, n = m + 2 + 1 := ⟨n - 3, by simp [St.dep] at h; omega⟩
    simp only [St.dep] at h
    simpa [St.nodes, St.D] using walks_node (nd := .s (.set p e)) [(p.D, [.p p]), (e.D, e.nodes)] (by simp [Nd.D, St.D]) (by simp; exact ⟨walks_pl p m, walks_ex e _ (by omega)⟩) (by omega)
  | .make t es, n, h => by
    obtain ⟨m, rfl⟩ : ∃ m, n = m + 2 + 1 := ⟨n - 3, by simp [St.dep] at h; omega⟩
    simp only [St.dep] at h
    have := walks_list (n := m + 1) Ex.D Ex.nodes exD_tup es fun x hx => walks_ex x _ (by have := dep_mem hx; omega)
    simpa [St.nodes, St.D] using walks_node (nd := .s (.make t es)) [(.int t, []), (.tup (es.map Ex.D), es.flatMap Ex.nodes)] (by simp [Nd.D, St.D]) (by simp; exact ⟨walks_int, this⟩) (by omega)
  | .drop k, n, h => by
    obtain ⟨m, rfl⟩ : ∃ m, n = m + 1 + 1 := ⟨n - 2, by simp [St.dep] at h; omega⟩
    simpa [St.nodes, St.D] using walks_node (nd := .s (.drop k)) [(.int k, [])] (by simp [Nd.D, St.D]) (by simp; exact walks_int) (by omega)
  | .tell q e, n, h => by
    obtain ⟨m, rfl⟩ : ∃ m, n = m + 2 + 1 := ⟨n - 3, by simp [St.dep] at h; omega⟩
    simp only [St.dep] at h
    simpa [St.nodes, St.D] using walks_node (nd := .s (.tell q e)) [(.int q, []), (e.D, e.nodes)] (by simp [Nd.D, St.D]) (by simp; exact ⟨walks_int, walks_ex e _ (by omega)⟩) (by omega)
  | .iff e a b, n, h => by
    obtain ⟨m, rfl⟩ : ∃ m, n = m + 2 + 1 := ⟨n - 3, by simp [St.dep] at h; omega⟩
    simp only [St.dep] at h
    have ha := walks_body a (m + 2) (by omega)
    have hb := walks_body b (m + 2) (by omega)
    simpa [St.nodes, St.D] using walks_node (nd := .s (.iff e a b)) [(e.D, e.nodes), (.tup (bodyD a), bodyNodes a), (.tup (bodyD b), bodyNodes b)] (by simp [Nd.D, St.D]) (by simp; exact ⟨walks_ex e _ (by omega), ha, hb⟩) (by omega)
theorem walks_body : ∀ (b : List St) (n : Nat), 2 * bodyDep b + 3 ≤ n → Walks n (.tup (bodyD b)) (bodyNodes b)
  | b, n, h => by
    obtain ⟨m, rfl⟩ : ∃ m, n = m + 1 := ⟨n - 1, by omega⟩
    rw [bodyD_map, bodyNodes_flat]
    exact walks_list St.D St.nodes stD_tup b (walks_sts b m (by omega))
theorem walks_sts : ∀ (b : List St) (n : Nat), 2 * bodyDep b + 2 ≤ n → ∀ s ∈ b, Walks n s.D s.nodes
  | [], _, _ => fun s hs => by cases hs
  | s :: r, n, h => fun x hx => by
    simp only [bodyDep] at h
    have h1 := walks_st s n (by omega)
    have h2 := walks_sts r n (by omega)
    rcases List.mem_cons.mp hx with e | e
    · subst e; exact h1
    · exact h2 x e
end
end PMl

set_option Elab.async false
set_option linter.all false
set_option maxRecDepth 100000
set_option maxHeartbeats 1000000
/-! the plain law of k95, 10: the law's own places. -/
namespace PMl
open PySem PM L2
def Ex.seen : Ex → List Pl
  | .val v => [.val v]
  | .fld k f => [.fld k f]
  | .cnt _ => [] | .tick => [] | .num _ => []
  | .not e => e.seen | .drw e => e.seen | .mov e _ => e.seen
  | .past _ _ e => e.seen
  | .op _ a b => a.seen ++ b.seen
mutual
def St.seen : St → List Pl
  | .set _ e => e.seen
  | .make _ es => es.flatMap Ex.seen
  | .drop _ => []
  | .tell _ e => e.seen
  | .iff e a b => e.seen ++ bodySeen a ++ bodySeen b
def bodySeen : List St → List Pl
  | [] => []
  | s :: r => s.seen ++ bodySeen r
end
theorem bodySeen_flat : ∀ b : List St, bodySeen b = b.flatMap St.seen
  | [] => rfl
  | s :: r => by rw [bodySeen, bodySeen_flat r, List.flatMap_cons]
theorem seen_size : ∀ e : Ex, e.seen.length ≤ e.size
  | .val _ => by simp [Ex.seen, Ex.size]
  | .fld _ _ => by simp [Ex.seen, Ex.size]
  | .cnt _ => by simp [Ex.seen, Ex.size]
  | .tick => by simp [Ex.seen, Ex.size]
  | .num _ => by simp [Ex.seen, Ex.size]
  | .not e => by have := seen_size e; simp [Ex.seen, Ex.size]; omega
  | .drw e => by have := seen_size e; simp [Ex.seen, Ex.size]; omega
  | .mov e _ => by have := seen_size e; simp [Ex.seen, Ex.size]; omega
  | .past _ _ e => by have := seen_size e; simp [Ex.seen, Ex.size]; omega
  | .op _ a b => by have := seen_size a; have := seen_size b; simp [Ex.seen, Ex.size]; omega
theorem seen_sizes : ∀ xs : List Ex, (xs.flatMap Ex.seen).length ≤ sizes xs
  | [] => by simp [sizes]
  | e :: r => by
    have := seen_sizes r; have := seen_size e
    rw [List.flatMap_cons, List.length_append, sizes]; omega
mutual
theorem St.seen_size : ∀ s : St, s.seen.length ≤ s.size
  | .set _ e => by have := PMl.seen_size e; simp [St.seen, St.size]; omega
  | .make _ xs => by have := seen_sizes xs; simp only [St.seen, St.size]; omega
  | .drop _ => by simp [St.seen]
  | .tell _ e => by have := PMl.seen_size e; simp [St.seen, St.size]; omega
  | .iff e a b => by
    have := PMl.seen_size e; have := bodySeen_size a; have := bodySeen_size b
    simp [St.seen, St.size]; omega
theorem bodySeen_size : ∀ b : List St, (bodySeen b).length ≤ bodySize b
  | [] => by simp [bodySeen]
  | s :: r => by have := St.seen_size s; have := bodySeen_size r; simp [bodySeen, bodySize]; omega
end
def Sees (n : Nat) (d : D) (ps : List Pl) : Prop := ∀ st : Sto, ps.length ≤ 12000000 → ∃ m g, m__law_seen n [d] st = .ok (.loc m) (st ++ g) ∧ (st ++ g)[m]? = some (.lst (ps.map Pl.D)) ∧ st.length ≤ m
theorem def_loc {n m : Nat} {s : S} {ds : List D} {ρ0 : PM.Env} {st st' : Sto} (h0 : ds.map some ++ List.replicate (n - ds.length) none = ρ0) (h : s ρ0 st = .rt (.loc m) st') (hm : st.length ≤ m) : mDef n s ds st = .ok (.loc m) st' := by
  show gcR st (outR (s (ds.map some ++ List.replicate (n - ds.length) none) st)) = _
  rw [h0, h]
  exact gcR_loc hm
theorem sees_leaf {n : Nat} {d : D} (h : ∀ st, isiD .tuple d st = .ok (.bl false) st) : Sees (n + 1) d [] := by
  intro st _
  refine ⟨st.length, [.lst []], ?_, get_new, Nat.le_refl _⟩
  show mDef 3 (b__law_seen (m__law_seen n)) _ _ = _
  refine def_loc (ρ0 := [some d, none, none]) rfl ?_ (Nat.le_refl _)
  unfold b__law_seen
  exact sSeq_rt (sIf_true (st' := st) (by simp [h, truD]) (sRet_ok (by simp)))
theorem sees_int {n : Nat} {i : Int} : Sees (n + 1) (.int i) [] := sees_leaf fun _ => rfl
theorem sees_str {n : Nat} {i : Str} : Sees (n + 1) (.str i) [] := sees_leaf fun _ => rfl
theorem sees_non {n : Nat} : Sees (n + 1) .non [] := sees_leaf fun _ => rfl
theorem sees_none {n : Nat} : Sees (n + 1) (.tup []) [] := by
  intro st _
  refine ⟨st.length, [.lst []], ?_, get_new, Nat.le_refl _⟩
  show mDef 3 (b__law_seen (m__law_seen n)) _ _ = _
  refine def_loc (ρ0 := [some (.tup []), none, none]) rfl ?_ (Nat.le_refl _)
  unfold b__law_seen
  exact sSeq_rt (sIf_true (st' := st) (by simp [isiD, tyD, Ty.sub, truD, lenD]) (sRet_ok (by simp)))
theorem sees_here {n : Nat} (p : Pl) : Sees (n + 1) p.D [p] := by
  intro st _
  refine ⟨st.length, [.lst [p.D]], ?_, get_new, Nat.le_refl _⟩
  show mDef 3 (b__law_seen (m__law_seen n)) _ _ = _
  refine def_loc (ρ0 := [some p.D, none, none]) rfl ?_ (Nat.le_refl _)
  unfold b__law_seen
  refine sSeq_nx (ρ' := [some p.D, none, none]) (st' := st) (sIf_false (st' := st) ?_ (by simp)) ?_
  · cases p <;> simp [Pl.D, isiD, tyD, Ty.sub, truD, lenD]
  refine sSeq_rt (sIf_true (st' := st) ?_ (sRet_ok (by simp)))
  have q1 := inSeq_cl (x := .str "value") (xs := [.str "value", .str "field"]) (by decide +kernel) (by decide) (by decide +kernel)
  have q2 := inSeq_cl (x := .str "field") (xs := [.str "value", .str "field"]) (by decide +kernel) (by decide) (by decide +kernel)
  cases p <;> simp [Pl.D, isiD, tyD, Ty.sub, truD, q1, q2]
theorem each_seen {n : Nat} {d : D} : ∀ (ps : List (D × List Pl)) (st : Sto) (m : Nat) (acc : List Pl) (x : Option D), (∀ p ∈ ps, Sees n p.1 p.2) → st[m]? = some (.lst (acc.map Pl.D)) → acc.length + (ps.flatMap (·.2)).length ≤ 12000000 → ∃ m' g x',
    forGo (fun _ => True) (gN 2) (sSet 1 (cOp2 addD (cVar 1) (cCall (m__law_seen n) [(cVar 2)]))) (ps.map (·.1)) [some d, some (.loc m), x] st = .nx [some d, some (.loc m'), x'] (st ++ g) ∧ (st ++ g)[m']? = some (.lst ((acc ++ ps.flatMap (·.2)).map Pl.D)) ∧ m ≤ m'
  | [], st, m, acc, x, _, hf, _ => ⟨m, [], x, by rw [List.map_nil, forGo_nil trivial, List.append_nil], by simpa using hf, Nat.le_refl _⟩
  | p :: r, st, m, acc, x, hp, hf, hz => by
    rw [List.flatMap_cons, List.length_append] at hz
    obtain ⟨m1, g1, e1, h1, l1⟩ := hp p List.mem_cons_self st (by omega)
    have hm := lt_get hf
    have ha : addD (.loc m) (.loc m1) (st ++ g1) = .ok (.loc (st ++ g1).length) ((st ++ g1) ++ [.lst ((acc ++ p.2).map Pl.D)]) := by
      simp only [addD, get_app hf, h1]
      rw [if_pos (by simp only [List.length_map]; exact Nat.le_trans (by omega) sz16), List.map_append]
    obtain ⟨m2, g2, x', e2, h2, l2⟩ := each_seen (n := n) (d := d) r ((st ++ g1) ++ [.lst ((acc ++ p.2).map Pl.D)]) (st ++ g1).length (acc ++ p.2) (some p.1) (fun q hq => hp q (List.mem_cons_of_mem _ hq)) get_new (by rw [List.length_append]; omega)
    refine ⟨m2, g1 ++ [.lst ((acc ++ p.2).map Pl.D)] ++ g2, x', ?_, ?_, ?_⟩
    · rw [List.map_cons, forGo_cons (ρ1 := [some d, some (.loc m), some p.1]) (ρ2 := [some d, some (.loc (st ++ g1).length), some p.1]) (st2 := (st ++ g1) ++ [.lst ((acc ++ p.2).map Pl.D)]) trivial rfl (.inl (sSet_ok (d := .loc (st ++ g1).length) (by simp [e1, ha]) rfl))]
      rw [e2]
      simp
    · simpa using h2
    · simp at l2; omega
theorem cut0 (xs : List D) : cutD xs (some 0) none = xs := by
  unfold cutD
  rw [show HT.sIx xs.length 0 (some 0) = 0 from by show HT.sIx xs.length 0 (some ((0 : Nat) : Int)) = 0; rw [HT.sIx_nat]; omega]
  simp [HT.sIx_none]
theorem cut2 (a b : D) (xs : List D) : cutD (a :: b :: xs) (some 2) none = xs := by
  unfold cutD
  rw [show HT.sIx (a :: b :: xs).length 0 (some 2) = 2 from by show HT.sIx _ 0 (some ((2 : Nat) : Int)) = 2; rw [HT.sIx_nat]; simp]
  simp [HT.sIx_none]
theorem sees_loop {n : Nat} {xs : List D} (ps : List (D × List Pl)) (hp : ∀ p ∈ ps, Sees n p.1 p.2)
    (h1 : ∀ st, sIf (tOrD (tNotD (cTru (cB1 (isiD .tuple) (cVar 0)))) (cTst (cOp2 eqD (cB1 lenD (cVar 0)) (cC (.int 0))))) (sRet (cNew (cLst []))) sNext [some (.tup xs), none, none] st = .nx [some (.tup xs), none, none] st)
    (h2 : ∀ st, sIf (tAndD (cTru (cB1 (isiD .str) (cOp2 getD (cVar 0) (cC (.int 0))))) (cTst (cInL false (cOp2 getD (cVar 0) (cC (.int 0))) (cLst [(cC (.str "value")), (cC (.str "field"))])))) (sRet (cNew (cLst [(cVar 0)]))) sNext [some (.tup xs), none, none] st = .nx [some (.tup xs), none, none] st)
    (h3 : ∀ st m, cSlice (cVar 0) (cPart (cOp2 mulD (cC (.int 2)) (cB1 intD (cAnd (cB1 (isiD .str) (cOp2 getD (cVar 0) (cC (.int 0)))) (cOp2 eqD (cOp2 getD (cVar 0) (cC (.int 0))) (cC (.str "set"))))))) cNoPart [some (.tup xs), some (.loc m), none] st = .ok (.tup (ps.map (·.1))) st) :
    Sees (n + 1) (.tup xs) (ps.flatMap (·.2)) := by
  intro st hz
  obtain ⟨m, g, x', e, h, l⟩ := each_seen (d := .tup xs) ps (st ++ [.lst []]) st.length [] none hp get_new (by simpa using hz)
  refine ⟨m, [.lst []] ++ g, ?_, by simpa using h, l⟩
  show mDef 3 (b__law_seen (m__law_seen n)) _ _ = _
  refine def_loc (ρ0 := [some (.tup xs), none, none]) rfl ?_ l
  unfold b__law_seen
  refine sSeq_nx (h1 st) ?_
  refine sSeq_nx (h2 st) ?_
  refine sSeq_nx (ρ' := [some (.tup xs), some (.loc st.length), none]) (st' := st ++ [.lst []]) (by simp) ?_
  refine sSeq_nx (ρ' := [some (.tup xs), some (.loc m), x']) (st' := (st ++ [.lst []]) ++ g) (sFor_ok (b := ⟨fun _ => True, ps.map (·.1)⟩) (cItr_tup (h3 _ _)) e) ?_
  simp
theorem sees_tup {n : Nat} (ps : List (D × List Pl)) (h0 : ps ≠ []) (hs : ∀ p r, ps = p :: r → ∀ st, isiD .str p.1 st = .ok (.bl false) st) (hp : ∀ p ∈ ps, Sees n p.1 p.2) : Sees (n + 1) (.tup (ps.map (·.1))) (ps.flatMap (·.2)) := by
  obtain ⟨p, r, rfl⟩ : ∃ p r, ps = p :: r := by
    cases ps with
    | nil => exact absurd rfl h0
    | cons p r => exact ⟨p, r, rfl⟩
  have hi := hs p r rfl
  refine sees_loop _ hp (fun st => ?_) (fun st => ?_) (fun st m => ?_)
  · refine sIf_false (st' := st) ?_ (by simp)
    simp [isiD, tyD, Ty.sub, truD, lenD]
    omega
  · refine sIf_false (st' := st) ?_ (by simp)
    simp [hi, truD]
  · simp [hi, mulD_int, sliceD, cut0]
theorem sees_node {n : Nat} {s : Str} (ps : List (D × List Pl)) (hs : cl (.str s) = true ∧ s ≠ "value" ∧ s ≠ "field" ∧ s ≠ "set") (hp : ∀ p ∈ ps, Sees n p.1 p.2) (hn : 0 < n) : Sees (n + 1) (.tup (.str s :: ps.map (·.1))) (ps.flatMap (·.2)) := by
  obtain ⟨m, rfl⟩ : ∃ m, n = m + 1 := ⟨n - 1, by omega⟩
  have hi : ∀ st, isiD .str (.str s) st = .ok (.bl true) st := fun _ => rfl
  have := sees_loop (n := m + 1) (xs := .str s :: ps.map (·.1)) ((.str s, []) :: ps) (fun p hq => by
    rcases List.mem_cons.mp hq with q | q
    · subst q; exact sees_str
    · exact hp p q) (fun st => sIf_false (st' := st) (by simp [isiD, tyD, Ty.sub, truD, lenD]; omega) (by simp))
    (fun st => sIf_false (st' := st) (by
      have q1 := inSeq_cl (x := .str s) (xs := [.str "value", .str "field"]) hs.1 (by simp [depD]) (by decide +kernel)
      simp [hi, truD, q1, hs.2.1, hs.2.2.1]) (by simp)) (fun st m => by
      simp [hi, hs.2.2.2, mulD_int, sliceD, cut0])
  simpa using this
theorem sees_set {n : Nat} {p e : D} {ps : List Pl} (h : Sees n e ps) : Sees (n + 1) (.tup [.str "set", p, e]) ps := by
  have hi : ∀ st, isiD .str (.str "set") st = .ok (.bl true) st := fun _ => rfl
  have := sees_loop (n := n) (xs := [.str "set", p, e]) [(e, ps)] (by simp; exact h) (fun st => sIf_false (st' := st) (by simp [isiD, tyD, Ty.sub, truD, lenD]) (by simp))
    (fun st => sIf_false (st' := st) (by
      have q1 := inSeq_cl (x := .str "set") (xs := [.str "value", .str "field"]) (by decide +kernel) (by simp [depD]) (by decide +kernel)
      simp [hi, truD, q1]) (by simp)) (fun st m => by
      simp [hi, mulD_int, sliceD, cut2])
  simpa using this
theorem sees_ex : ∀ (e : Ex) (n : Nat), e.dep + 1 ≤ n → Sees n e.D e.seen := by
  intro e
  induction e with
  | val v => intro n h; obtain ⟨m, rfl⟩ : ∃ m, n = m + 1 + 1 := ⟨n - 2, by simp [Ex.dep] at h; omega⟩; exact sees_here (.val v)
  | fld k f => intro n h; obtain ⟨m, rfl⟩ : ∃ m, n = m + 1 + 1 := ⟨n - 2, by simp [Ex.dep] at h; omega⟩; exact sees_here (.fld k f)
  | cnt v => intro n h; obtain ⟨m, rfl⟩ : ∃ m, n = m + 1 + 1 := ⟨n - 2, by simp [Ex.dep] at h; omega⟩; exact sees_node (s := "count") [(.int v, [])] (by decide +kernel) (by simp; exact sees_int) (by omega)
  | tick => intro n h; obtain ⟨m, rfl⟩ : ∃ m, n = m + 1 + 1 := ⟨n - 2, by simp [Ex.dep] at h; omega⟩; exact sees_node (s := "tick") [] (by decide +kernel) (by simp) (by omega)
  | num v => intro n h; obtain ⟨m, rfl⟩ : ∃ m, n = m + 1 + 1 := ⟨n - 2, by simp [Ex.dep] at h; omega⟩; exact sees_node (s := "number") [(.int v, [])] (by decide +kernel) (by simp; exact sees_int) (by omega)
  | not e ih => intro n h; obtain ⟨m, rfl⟩ : ∃ m, n = m + 1 + 1 := ⟨n - 2, by simp [Ex.dep] at h; omega⟩; simp only [Ex.dep] at h; simpa [Ex.seen, Ex.D] using sees_node (s := "not") [(e.D, e.seen)] (by decide +kernel) (by simp; exact ih (m + 1) (by omega)) (by omega)
  | drw e ih => intro n h; obtain ⟨m, rfl⟩ : ∃ m, n = m + 1 + 1 := ⟨n - 2, by simp [Ex.dep] at h; omega⟩; simp only [Ex.dep] at h; simpa [Ex.seen, Ex.D] using sees_node (s := "draw") [(e.D, e.seen)] (by decide +kernel) (by simp; exact ih (m + 1) (by omega)) (by omega)
  | mov e b ih => intro n h; obtain ⟨m, rfl⟩ : ∃ m, n = m + 1 + 1 := ⟨n - 2, by simp [Ex.dep] at h; omega⟩; simp only [Ex.dep] at h; simpa [Ex.seen, Ex.D] using sees_node (s := "move") [(e.D, e.seen), (.int b, [])] (by decide +kernel) (by simp; exact ⟨ih (m + 1) (by omega), sees_int⟩) (by omega)
  | past k f e ih => intro n h; obtain ⟨m, rfl⟩ : ∃ m, n = m + 1 + 1 := ⟨n - 2, by simp [Ex.dep] at h; omega⟩; simp only [Ex.dep] at h; simpa [Ex.seen, Ex.D] using sees_node (s := "past") [(.int k, []), (.int f, []), (e.D, e.seen)] (by decide +kernel) (by simp; exact ⟨sees_int, sees_int, ih (m + 1) (by omega)⟩) (by omega)
  | op s a b iha ihb => intro n h; obtain ⟨m, rfl⟩ : ∃ m, n = m + 1 + 1 := ⟨n - 2, by simp [Ex.dep] at h; omega⟩; simp only [Ex.dep] at h; simpa [Ex.seen, Ex.D] using sees_node (s := "op") [(.str s, []), (a.D, a.seen), (b.D, b.seen)] (by decide +kernel) (by simp; exact ⟨sees_str, iha (m + 1) (by omega), ihb (m + 1) (by omega)⟩) (by omega)
theorem sees_list {α : Type} {n : Nat} (f : α → D) (g : α → List Pl) (ht : ∀ x, ∃ xs, f x = .tup xs) (l : List α) (h : ∀ x ∈ l, Sees n (f x) (g x)) : Sees (n + 1) (.tup (l.map f)) (l.flatMap g) := by
  cases l with
  | nil => exact sees_none
  | cons x r =>
    have := sees_tup (n := n) ((x :: r).map fun x => (f x, g x)) (by simp) (fun p r' e st => by
      simp at e
      obtain ⟨xs, q⟩ := ht x
      rw [← e.1]
      simp [q, isiD, tyD, Ty.sub]) (fun p hp => by
      obtain ⟨y, hy, rfl⟩ := List.mem_map.mp hp
      exact h y hy)
    simpa [List.map_map, Function.comp_def, List.flatMap_map] using this
mutual
theorem sees_st : ∀ (s : St) (n : Nat), 2 * s.dep + 2 ≤ n → Sees n s.D s.seen
  | .set p e, n, h => by
    obtain ⟨m, rfl⟩ : ∃ m, n = m + 2 + 1 := ⟨n - 3, by simp [St.dep] at h; omega⟩
    simp only [St.dep] at h
    simpa [St.seen, St.D] using sees_set (p := p.D) (sees_ex e (m + 2) (by omega))
  | .make t es, n, h => by
    obtain ⟨m, rfl⟩ : ∃ m, n = m + 2 + 1 := ⟨n - 3, by simp [St.dep] at h; omega⟩
    simp only [St.dep] at h
    have := sees_list (n := m + 1) Ex.D Ex.seen exD_tup es fun x hx => sees_ex x _ (by have := dep_mem hx; omega)
    simpa [St.seen, St.D] using sees_node (s := "make") [(.int t, []), (.tup (es.map Ex.D), es.flatMap Ex.seen)] (by decide +kernel) (by simp; exact ⟨sees_int, this⟩) (by omega)
  | .drop k, n, h => by
    obtain ⟨m, rfl⟩ : ∃ m, n = m + 1 + 1 := ⟨n - 2, by simp [St.dep] at h; omega⟩
    simpa [St.seen, St.D] using sees_node (n := m + 1) (s := "drop") [(.int k, [])] (by decide +kernel) (by simp; exact sees_int) (by omega)
  | .tell q e, n, h => by
    obtain ⟨m, rfl⟩ : ∃ m, n = m + 2 + 1 := ⟨n - 3, by simp [St.dep] at h; omega⟩
    simp only [St.dep] at h
    simpa [St.seen, St.D] using sees_node (s := "tell") [(.int q, []), (e.D, e.seen)] (by decide +kernel) (by simp; exact ⟨sees_int, sees_ex e _ (by omega)⟩) (by omega)
  | .iff e a b, n, h => by
    obtain ⟨m, rfl⟩ : ∃ m, n = m + 2 + 1 := ⟨n - 3, by simp [St.dep] at h; omega⟩
    simp only [St.dep] at h
    have ha := sees_body a (m + 2) (by omega)
    have hb := sees_body b (m + 2) (by omega)
    simpa [St.seen, St.D] using sees_node (s := "if") [(e.D, e.seen), (.tup (bodyD a), bodySeen a), (.tup (bodyD b), bodySeen b)] (by decide +kernel) (by simp; exact ⟨sees_ex e _ (by omega), ha, hb⟩) (by omega)
theorem sees_body : ∀ (b : List St) (n : Nat), 2 * bodyDep b + 3 ≤ n → Sees n (.tup (bodyD b)) (bodySeen b)
  | b, n, h => by
    obtain ⟨m, rfl⟩ : ∃ m, n = m + 1 := ⟨n - 1, by omega⟩
    rw [bodyD_map, bodySeen_flat]
    exact sees_list St.D St.seen stD_tup b (sees_sts b m (by omega))
theorem sees_sts : ∀ (b : List St) (n : Nat), 2 * bodyDep b + 2 ≤ n → ∀ s ∈ b, Sees n s.D s.seen
  | [], _, _ => fun s hs => by cases hs
  | s :: r, n, h => fun x hx => by
    simp only [bodyDep] at h
    have h1 := sees_st s n (by omega)
    have h2 := sees_sts r n (by omega)
    rcases List.mem_cons.mp hx with e | e
    · subst e; exact h1
    · exact h2 x e
end
end PMl

set_option Elab.async false
set_option linter.all false
set_option maxRecDepth 100000
set_option maxHeartbeats 2000000
/-! the plain law of k95, 11: the loops of _law_touches (printed by mk_L11_k95.py). -/
namespace PMl
open PySem PM L2
def nl (es : List Nat) : Nd → List Plc
  | .s (.make t _) => [.thg t]
  | .e (.cnt t) => [.thg t]
  | .e (.past k f _) => [fldP es k f]
  | _ => []
def nc (es tabs : List Nat) : Nd → List Plc
  | .s (.make t _) => makeC tabs t
  | .s (.drop k) => [.thg (es.getD k 0)]
  | _ => []
def nt : Nd → List Pl
  | .s (.set p _) => [p]
  | _ => []
def Nd.kind : Nd → Str
  | .e (.val _) => "value" | .e (.fld _ _) => "field" | .e (.cnt _) => "count" | .e .tick => "tick" | .e (.num _) => "number"
  | .e (.not _) => "not" | .e (.drw _) => "draw" | .e (.mov _ _) => "move" | .e (.past _ _ _) => "past" | .e (.op _ _ _) => "op"
  | .s (.set _ _) => "set" | .s (.make _ _) => "make" | .s (.drop _) => "drop" | .s (.tell _ _) => "tell" | .s (.iff _ _ _) => "if"
  | .p (.val _) => "value" | .p (.fld _ _) => "field"
def nm : Nd → List Nat
  | .e (.mov _ b) => [b]
  | _ => []
def Nd.ok (d : Dims) (es : List Nat) : Nd → Prop
  | .e x => x.ok d es
  | .s x => x.ok d es
  | .p x => x.ok d es
theorem kind_at (x : Nd) (st : Sto) : getD x.D (.int 0) st = .ok (.str x.kind) st := by
  cases x with
  | e x => cases x <;> simp [Nd.D, Ex.D, Nd.kind]
  | s x => cases x <;> simp [Nd.D, St.D, Nd.kind]
  | p x => cases x <;> simp [Nd.D, Pl.D, Nd.kind]
/-- the store goes on behind st0 -/
def Pr (st0 st : Sto) : Prop := ∃ g, st = st0 ++ g
theorem Pr.refl {st : Sto} : Pr st st := ⟨[], by simp⟩
theorem Pr.app {st0 st g : Sto} (h : Pr st0 st) : Pr st0 (st ++ g) := by
  obtain ⟨g', rfl⟩ := h
  exact ⟨g' ++ g, by simp⟩
theorem Pr.set {st0 st : Sto} {n : Nat} {o : O} (h : Pr st0 st) (hn : st0.length ≤ n) : Pr st0 (st.set n o) := by
  obtain ⟨g, rfl⟩ := h
  exact ⟨g.set (n - st0.length) o, List.set_append_right _ _ hn⟩
/-- where the lists lie -/
structure LAt (st0 : Sto) (L C N : Nat) (st : Sto) (lo ch : List Plc) (ns : List Nd) : Prop where
  hl : st[L]? = some (.lst (lo.map Plc.D))
  hc : st[C]? = some (.lst (ch.map Plc.D))
  hn : st[N]? = some (.lst (ns.map Nd.D))
  ne : L ≠ C ∧ L ≠ N ∧ C ≠ N
  ge : st0.length ≤ L ∧ st0.length ≤ C ∧ st0.length ≤ N
  pr : Pr st0 st
section
open Classical
variable {st0 st : Sto} {L C N : Nat} {lo ch : List Plc} {ns : List Nd}
theorem LAt.look (h : LAt st0 L C N st lo ch ns) (p : Plc) (hz : lo.length < 16000000) : appD (.loc L) [p.D] st = .ok .non (st.set L (.lst ((lo ++ [p]).map Plc.D))) ∧ LAt st0 L C N (st.set L (.lst ((lo ++ [p]).map Plc.D))) (lo ++ [p]) ch ns := by
  refine ⟨?_, ⟨get_set_eq h.hl, by rw [get_set_ne (Ne.symm h.ne.1)]; exact h.hc, by rw [get_set_ne (Ne.symm h.ne.2.1)]; exact h.hn, h.ne, h.ge, h.pr.set h.ge.1⟩⟩
  rw [appD_at h.hl (by simpa using hz)]
  simp
theorem LAt.chg (h : LAt st0 L C N st lo ch ns) (p : Plc) (hz : ch.length < 16000000) : appD (.loc C) [p.D] st = .ok .non (st.set C (.lst ((ch ++ [p]).map Plc.D))) ∧ LAt st0 L C N (st.set C (.lst ((ch ++ [p]).map Plc.D))) lo (ch ++ [p]) ns := by
  refine ⟨?_, ⟨by rw [get_set_ne h.ne.1]; exact h.hl, get_set_eq h.hc, by rw [get_set_ne (Ne.symm h.ne.2.2)]; exact h.hn, h.ne, h.ge, h.pr.set h.ge.2.1⟩⟩
  rw [appD_at h.hc (by simpa using hz)]
  simp
theorem LAt.new (h : LAt st0 L C N st lo ch ns) (ch' : List Plc) : LAt st0 L st.length N (st ++ [.lst (ch'.map Plc.D)]) lo ch' ns := by
  have h1 := lt_get h.hl
  have h2 := lt_get h.hn
  obtain ⟨g, e⟩ := h.pr
  have h3 : st0.length ≤ st.length := by rw [e]; simp
  exact ⟨get_app h.hl, get_new, get_app h.hn, ⟨by omega, h.ne.2.1, by omega⟩, ⟨h.ge.1, h3, h.ge.2.2⟩, h.pr.app⟩
theorem plc_of (es : List Nat) (d : Dims) (p : Pl) (hp : p.ok d es) {ρ : PM.Env} {s : Sto} (h4 : ρ[4]? = some (some (.tup (es.map natD)))) (h11 : ρ[11]? = some (some p.D)) :
    cIf (cTst (cOp2 eqD (cOp2 getD (cVar 11) (cC (.int 0))) (cC (.str "value")))) (cVar 11) (cTup [(cC (.str "field")), (cOp2 getD (cVar 4) (cOp2 getD (cVar 11) (cC (.int 1)))), (cOp2 getD (cVar 11) (cC (.int 2)))]) ρ s = .ok (p.plc es).D s := by
  cases p with
  | val v => simp [h11, Pl.D, Pl.plc, Plc.D]
  | fld k f =>
    have hk : k < es.length := FldOk.lt hp
    have hx : (es.map natD)[k]? = some (natD (es.getD k 0)) := by
      rw [List.getElem?_map, List.getElem?_eq_getElem hk]
      simp [List.getD_eq_getElem?_getD, List.getElem?_eq_getElem hk]
    simp [h11, h4, Pl.D, Pl.plc, Plc.D, fldP, natD, atD_nat s hx, -List.getD_eq_getElem?_getD]

theorem each_target {d : Dims} {es : List Nat} {w ix wd nm cd bd : D} {ta nd ki : Option D} {T : Nat} {T0 : List D} : ∀ (ps : List Pl) (st : Sto) (ch : List Plc) (x : Option D), (∀ p ∈ ps, p.ok d es) → LAt st0 L C N st lo ch ns → st[T]? = some (.lst T0) → T ≠ C → ch.length + ps.length ≤ 12000000 → ∃ st' x',
    forGo (fun s => s[T]? = some (.lst T0)) (gN 11) (sExp (cApp (cVar 8) (cIf (cTst (cOp2 eqD (cOp2 getD (cVar 11) (cC (.int 0))) (cC (.str "value")))) (cVar 11) (cTup [(cC (.str "field")), (cOp2 getD (cVar 4) (cOp2 getD (cVar 11) (cC (.int 1)))), (cOp2 getD (cVar 11) (cC (.int 2)))])))) (ps.map Pl.D) [some w, some ix, some wd, some nm, some (.tup (es.map natD)), some cd, some bd, some (.loc L), some (.loc C), some (.loc N), ta, x, nd, ki, none, none, none, none, none] st = .nx [some w, some ix, some wd, some nm, some (.tup (es.map natD)), some cd, some bd, some (.loc L), some (.loc C), some (.loc N), ta, x', nd, ki, none, none, none, none, none] st' ∧ LAt st0 L C N st' lo (ch ++ ps.map (Pl.plc es)) ns
  | [], st, ch, x, _, h, ht, _, _ => ⟨st, x, by rw [List.map_nil, forGo_nil ht], by simpa using h⟩
  | p :: r, st, ch, x, hp, h, ht, hT, hz => by
    simp only [List.length_cons] at hz
    obtain ⟨a1, a2⟩ := h.chg (p.plc es) (by omega)
    have q := plc_of es d p (hp p List.mem_cons_self) (ρ := [some w, some ix, some wd, some nm, some (.tup (es.map natD)), some cd, some bd, some (.loc L), some (.loc C), some (.loc N), ta, some p.D, nd, ki, none, none, none, none, none]) (s := st) rfl rfl
    obtain ⟨st2, x', e2, t2⟩ := each_target (d := d) (es := es) (w := w) (ix := ix) (wd := wd) (nm := nm) (cd := cd) (bd := bd) (ta := ta) (nd := nd) (ki := ki) r _ _ (some p.D) (fun y hy => hp y (List.mem_cons_of_mem _ hy)) a2 (by rw [get_set_ne hT]; exact ht) hT (by simp only [List.length_append, List.length_singleton]; omega)
    refine ⟨st2, x', ?_, by simpa using t2⟩
    rw [List.map_cons, forGo_cons (ρ1 := [some w, some ix, some wd, some nm, some (.tup (es.map natD)), some cd, some bd, some (.loc L), some (.loc C), some (.loc N), ta, some p.D, nd, ki, none, none, none, none, none]) (ρ2 := [some w, some ix, some wd, some nm, some (.tup (es.map natD)), some cd, some bd, some (.loc L), some (.loc C), some (.loc N), ta, some p.D, nd, ki, none, none, none, none, none]) (st2 := st.set C (.lst ((ch ++ [p.plc es]).map Plc.D))) ht rfl (.inl (sExp_ok (d := .non) ?_))]
    · exact e2
    · exact app_ok rfl h.hc q a1
theorem each_place {d : Dims} {es : List Nat} {w ix wd nm cd bd : D} {ta nd ki : Option D} {T : Nat} {T0 : List D} : ∀ (ps : List Pl) (st : Sto) (lo : List Plc) (x : Option D), (∀ p ∈ ps, p.ok d es) → LAt st0 L C N st lo ch ns → st[T]? = some (.lst T0) → T ≠ L → lo.length + ps.length ≤ 12000000 → ∃ st' x',
    forGo (fun s => s[T]? = some (.lst T0)) (gN 11) (sExp (cApp (cVar 7) (cIf (cTst (cOp2 eqD (cOp2 getD (cVar 11) (cC (.int 0))) (cC (.str "value")))) (cVar 11) (cTup [(cC (.str "field")), (cOp2 getD (cVar 4) (cOp2 getD (cVar 11) (cC (.int 1)))), (cOp2 getD (cVar 11) (cC (.int 2)))])))) (ps.map Pl.D) [some w, some ix, some wd, some nm, some (.tup (es.map natD)), some cd, some bd, some (.loc L), some (.loc C), some (.loc N), ta, x, nd, ki, none, none, none, none, none] st = .nx [some w, some ix, some wd, some nm, some (.tup (es.map natD)), some cd, some bd, some (.loc L), some (.loc C), some (.loc N), ta, x', nd, ki, none, none, none, none, none] st' ∧ LAt st0 L C N st' (lo ++ ps.map (Pl.plc es)) ch ns
  | [], st, lo, x, _, h, ht, _, _ => ⟨st, x, by rw [List.map_nil, forGo_nil ht], by simpa using h⟩
  | p :: r, st, lo, x, hp, h, ht, hT, hz => by
    simp only [List.length_cons] at hz
    obtain ⟨a1, a2⟩ := h.look (p.plc es) (by omega)
    have q := plc_of es d p (hp p List.mem_cons_self) (ρ := [some w, some ix, some wd, some nm, some (.tup (es.map natD)), some cd, some bd, some (.loc L), some (.loc C), some (.loc N), ta, some p.D, nd, ki, none, none, none, none, none]) (s := st) rfl rfl
    obtain ⟨st2, x', e2, t2⟩ := each_place (d := d) (es := es) (w := w) (ix := ix) (wd := wd) (nm := nm) (cd := cd) (bd := bd) (ta := ta) (nd := nd) (ki := ki) r _ _ (some p.D) (fun y hy => hp y (List.mem_cons_of_mem _ hy)) a2 (by rw [get_set_ne hT]; exact ht) hT (by simp only [List.length_append, List.length_singleton]; omega)
    refine ⟨st2, x', ?_, by simpa using t2⟩
    rw [List.map_cons, forGo_cons (ρ1 := [some w, some ix, some wd, some nm, some (.tup (es.map natD)), some cd, some bd, some (.loc L), some (.loc C), some (.loc N), ta, some p.D, nd, ki, none, none, none, none, none]) (ρ2 := [some w, some ix, some wd, some nm, some (.tup (es.map natD)), some cd, some bd, some (.loc L), some (.loc C), some (.loc N), ta, some p.D, nd, ki, none, none, none, none, none]) (st2 := st.set L (.lst ((lo ++ [p.plc es]).map Plc.D))) ht rfl (.inl (sExp_ok (d := .non) ?_))]
    · exact e2
    · exact app_ok rfl h.hl q a1
noncomputable def nodeBody : S := (sSeq (sSet 13 (cOp2 getD (cVar 12) (cC (.int 0))))
  (sSeq (sIf (cTst (cOp2 eqD (cVar 13) (cC (.str "make")))) (sSeq (sExp (cApp (cVar 7) (cTup [(cC (.str "things")), (cOp2 getD (cVar 12) (cC (.int 1)))])))
  (sSeq (sExp (cApp (cVar 8) (cTup [(cC (.str "things")), (cOp2 getD (cVar 12) (cC (.int 1)))])))
  (sSet 8 (cNew (cCatE (cVar 8) (cComp (cRng1 (cB1 lenD (cOp2 getD (cOp2 getD (cOp2 getD (cVar 0) (cC (.int 5))) (cOp2 getD (cVar 12) (cC (.int 1)))) (cC (.int 3))))) (.one 17) tYesD (cTup [(cC (.str "field")), (cOp2 getD (cVar 12) (cC (.int 1))), (cVar 17)]) [17])))))) sNext)
  (sSeq (sIf (cTst (cOp2 eqD (cVar 13) (cC (.str "drop")))) (sExp (cApp (cVar 8) (cTup [(cC (.str "things")), (cOp2 getD (cVar 4) (cOp2 getD (cVar 12) (cC (.int 1))))]))) sNext)
  (sSeq (sIf (cTst (cOp2 eqD (cVar 13) (cC (.str "count")))) (sExp (cApp (cVar 7) (cTup [(cC (.str "things")), (cOp2 getD (cVar 12) (cC (.int 1)))]))) sNext)
  (sIf (cTst (cOp2 eqD (cVar 13) (cC (.str "past")))) (sExp (cApp (cVar 7) (cTup [(cC (.str "field")), (cOp2 getD (cVar 4) (cOp2 getD (cVar 12) (cC (.int 1)))), (cOp2 getD (cVar 12) (cC (.int 2)))]))) sNext)))))
theorem comp_fields {ρ : PM.Env} {d : Dims} {w : D} {q : Nat} {es : List Ex} {s : Sto} {n : Nat} (hw : WAt w d) (hq : d.tabs[q]? = some n) (h0 : ρ[0]? = some (some w)) (h12 : ρ[12]? = some (some (Nd.s (.make q es)).D)) (hl : ρ.length = 19) :
    cComp (cRng1 (cB1 lenD (cOp2 getD (cOp2 getD (cOp2 getD (cVar 0) (cC (.int 5))) (cOp2 getD (cVar 12) (cC (.int 1)))) (cC (.int 3))))) (.one 17) tYesD (cTup [(cC (.str "field")), (cOp2 getD (cVar 12) (cC (.int 1))), (cVar 17)]) [17] ρ s = .ok (((List.range n).map (Plc.fld q)).map Plc.D) s := by
  obtain ⟨x0, xa, xb, ks, vs, ts, tl, r, rfl, _, _, _, ht⟩ := hw.form
  obtain ⟨hn, a, b, c', fs, h4, h5⟩ := ht.at_ q n hq
  have hts := atD_nat (x := .tup [a, b, c', .tup fs]) s h4
  have ln : lenD (.tup fs) s = .ok (.int (n : Int)) s := by simp [lenD, h5]
  have h12' : ρ[12]? = some (some (.tup [.str "make", .int (q : Int), .tup (es.map Ex.D)])) := by rw [h12]; simp [Nd.D, St.D]
  have e := cRng1_ok (e := cB1 lenD (cOp2 getD (cOp2 getD (cOp2 getD (cVar 0) (cC (.int 5))) (cOp2 getD (cVar 12) (cC (.int 1)))) (cC (.int 3)))) (ρ := ρ) (st := s) (st' := s) (n := n) (by simp [h0, h12', hts, ln]) (by omega)
  rw [cComp_ap, e, R.bind_ok, if_pos (by show (rngD 0 n).length ≤ sizeLine; rw [rngD_len]; exact Nat.le_trans (by omega) sz16)]
  have := compGo_pure (chk := fun _ => True) (t := .one 17) (tt := tYesD) (te := cTup [(cC (.str "field")), (cOp2 getD (cVar 12) (cC (.int 1))), (cVar 17)]) (ρ := wipeD ρ [17]) (st := s) (fun _ => true) (fun x => D.tup [.str "field", .int (q : Int), x]) trivial (rngD 0 n) (fun x _ => ⟨(wipeD ρ [17]).set 17 (some x), rfl, rfl, fun _ => by
    have g1 : ((wipeD ρ [17]).set 17 (some x))[12]? = some (some (.tup [.str "make", .int (q : Int), .tup (es.map Ex.D)])) := by simp [wipeD, List.getElem?_set_ne, h12']
    have g2 : ((wipeD ρ [17]).set 17 (some x))[17]? = some (some x) := List.getElem?_set_self (by simp [wipeD, hl])
    simp [g1, g2]⟩)
  rw [this, rngD_nat, List.filter_eq_self.mpr (fun _ _ => rfl)]
  simp [List.map_map, Function.comp_def, Plc.D]
theorem node_ok {d : Dims} {es : List Nat} {w ix wd nm cd bd : D} {ta pl : Option D} {x : Nd} {nd0 ki0 : Option D} (hw : WAt w d) (hx : x.ok d es) (h : LAt st0 L C N st lo ch ns) (z1 : lo.length + (nl es x).length ≤ 12000000) (z2 : ch.length + (nc es d.tabs x).length ≤ 12000000) : ∃ st' C',
    nodeBody [some w, some ix, some wd, some nm, some (.tup (es.map natD)), some cd, some bd, some (.loc L), some (.loc C), some (.loc N), ta, pl, some x.D, ki0, none, none, none, none, none] st = .nx [some w, some ix, some wd, some nm, some (.tup (es.map natD)), some cd, some bd, some (.loc L), some (.loc C'), some (.loc N), ta, pl, some x.D, some (.str x.kind), none, none, none, none, none] st' ∧ LAt st0 L C' N st' (lo ++ nl es x) (ch ++ nc es d.tabs x) ns := by
  unfold nodeBody
  have k0 := kind_at x st
  have first : ∀ {f : F} {b : S}, b [some w, some ix, some wd, some nm, some (.tup (es.map natD)), some cd, some bd, some (.loc L), some (.loc C), some (.loc N), ta, pl, some x.D, some (.str x.kind), none, none, none, none, none] st = f → sSeq (sSet 13 (cOp2 getD (cVar 12) (cC (.int 0)))) b [some w, some ix, some wd, some nm, some (.tup (es.map natD)), some cd, some bd, some (.loc L), some (.loc C), some (.loc N), ta, pl, some x.D, ki0, none, none, none, none, none] st = f := fun q => sSeq_nx (sSet_ok (d := .str x.kind) (by simp [k0]) rfl) q
  have none_of : x.kind ≠ "make" → x.kind ≠ "drop" → x.kind ≠ "count" → x.kind ≠ "past" → nl es x = [] → nc es d.tabs x = [] → ∃ st' C', (sSeq (sSet 13 (cOp2 getD (cVar 12) (cC (.int 0))))
  (sSeq (sIf (cTst (cOp2 eqD (cVar 13) (cC (.str "make")))) (sSeq (sExp (cApp (cVar 7) (cTup [(cC (.str "things")), (cOp2 getD (cVar 12) (cC (.int 1)))])))
  (sSeq (sExp (cApp (cVar 8) (cTup [(cC (.str "things")), (cOp2 getD (cVar 12) (cC (.int 1)))])))
  (sSet 8 (cNew (cCatE (cVar 8) (cComp (cRng1 (cB1 lenD (cOp2 getD (cOp2 getD (cOp2 getD (cVar 0) (cC (.int 5))) (cOp2 getD (cVar 12) (cC (.int 1)))) (cC (.int 3))))) (.one 17) tYesD (cTup [(cC (.str "field")), (cOp2 getD (cVar 12) (cC (.int 1))), (cVar 17)]) [17])))))) sNext)
  (sSeq (sIf (cTst (cOp2 eqD (cVar 13) (cC (.str "drop")))) (sExp (cApp (cVar 8) (cTup [(cC (.str "things")), (cOp2 getD (cVar 4) (cOp2 getD (cVar 12) (cC (.int 1))))]))) sNext)
  (sSeq (sIf (cTst (cOp2 eqD (cVar 13) (cC (.str "count")))) (sExp (cApp (cVar 7) (cTup [(cC (.str "things")), (cOp2 getD (cVar 12) (cC (.int 1)))]))) sNext)
  (sIf (cTst (cOp2 eqD (cVar 13) (cC (.str "past")))) (sExp (cApp (cVar 7) (cTup [(cC (.str "field")), (cOp2 getD (cVar 4) (cOp2 getD (cVar 12) (cC (.int 1)))), (cOp2 getD (cVar 12) (cC (.int 2)))]))) sNext))))) [some w, some ix, some wd, some nm, some (.tup (es.map natD)), some cd, some bd, some (.loc L), some (.loc C), some (.loc N), ta, pl, some x.D, ki0, none, none, none, none, none] st = .nx [some w, some ix, some wd, some nm, some (.tup (es.map natD)), some cd, some bd, some (.loc L), some (.loc C'), some (.loc N), ta, pl, some x.D, some (.str x.kind), none, none, none, none, none] st' ∧ LAt st0 L C' N st' (lo ++ nl es x) (ch ++ nc es d.tabs x) ns := by
    intro h1 h2 h3 h4 h5 h6
    refine ⟨st, C, first ?_, by rw [h5, h6]; simpa using h⟩
    refine sSeq_nx (sIf_false (st' := st) (by simp [h1]) rfl) ?_
    refine sSeq_nx (sIf_false (st' := st) (by simp [h2]) rfl) ?_
    refine sSeq_nx (sIf_false (st' := st) (by simp [h3]) rfl) ?_
    exact sIf_false (st' := st) (by simp [h4]) rfl
  cases x with
  | p p => cases p <;> exact none_of (by simp [Nd.kind]) (by simp [Nd.kind]) (by simp [Nd.kind]) (by simp [Nd.kind]) rfl rfl
  | e e =>
    cases e with
    | cnt t =>
      obtain ⟨a1, a2⟩ := h.look (.thg t) (by simp [nl] at z1; omega)
      refine ⟨st.set L (.lst ((lo ++ [Plc.thg t]).map Plc.D)), C, first ?_, by simpa [nl, nc] using a2⟩
      refine sSeq_nx (sIf_false (st' := st) (by simp [Nd.kind]) rfl) ?_
      refine sSeq_nx (sIf_false (st' := st) (by simp [Nd.kind]) rfl) ?_
      refine sSeq_nx (st' := st.set L (.lst ((lo ++ [Plc.thg t]).map Plc.D))) (sIf_true (st' := st) (by simp [Nd.kind]) (sExp_ok (d := .non) ?_)) (sIf_false (st' := st.set L (.lst ((lo ++ [Plc.thg t]).map Plc.D))) (by simp [Nd.kind]) rfl)
      exact app_ok rfl h.hl (y := (Plc.thg t).D) (by simp [Nd.D, Ex.D, Plc.D]) a1
    | past k f e =>
      obtain ⟨a1, a2⟩ := h.look (fldP es k f) (by simp [nl] at z1; omega)
      have hk : k < es.length := FldOk.lt hx.1
      have hx' : (es.map natD)[k]? = some (natD (es.getD k 0)) := by
        rw [List.getElem?_map, List.getElem?_eq_getElem hk]
        simp [List.getD_eq_getElem?_getD, List.getElem?_eq_getElem hk]
      refine ⟨st.set L (.lst ((lo ++ [fldP es k f]).map Plc.D)), C, first ?_, by simpa [nl, nc] using a2⟩
      refine sSeq_nx (sIf_false (st' := st) (by simp [Nd.kind]) rfl) ?_
      refine sSeq_nx (sIf_false (st' := st) (by simp [Nd.kind]) rfl) ?_
      refine sSeq_nx (sIf_false (st' := st) (by simp [Nd.kind]) rfl) ?_
      refine sIf_true (st' := st) (by simp [Nd.kind]) (sExp_ok (d := .non) ?_)
      exact app_ok rfl h.hl (y := (fldP es k f).D) (by simp [Nd.D, Ex.D, Plc.D, fldP, natD, atD_nat st hx', -List.getD_eq_getElem?_getD]) a1
    | _ => exact none_of (by simp [Nd.kind]) (by simp [Nd.kind]) (by simp [Nd.kind]) (by simp [Nd.kind]) rfl rfl
  | s s =>
    cases s with
    | drop k =>
      obtain ⟨a1, a2⟩ := h.chg (.thg (es.getD k 0)) (by simp [nc] at z2; omega)
      have hk : k < es.length := by simpa [Nd.ok, St.ok] using hx
      have hx' : (es.map natD)[k]? = some (natD (es.getD k 0)) := by
        rw [List.getElem?_map, List.getElem?_eq_getElem hk]
        simp [List.getD_eq_getElem?_getD, List.getElem?_eq_getElem hk]
      refine ⟨st.set C (.lst ((ch ++ [Plc.thg (es.getD k 0)]).map Plc.D)), C, first ?_, by simpa [nl, nc, -List.getD_eq_getElem?_getD] using a2⟩
      refine sSeq_nx (sIf_false (st' := st) (by simp [Nd.kind]) rfl) ?_
      refine sSeq_nx (st' := st.set C (.lst ((ch ++ [Plc.thg (es.getD k 0)]).map Plc.D))) (sIf_true (st' := st) (by simp [Nd.kind]) (sExp_ok (d := .non) ?_)) (sSeq_nx (sIf_false (st' := st.set C (.lst ((ch ++ [Plc.thg (es.getD k 0)]).map Plc.D))) (by simp [Nd.kind]) rfl) (sIf_false (st' := st.set C (.lst ((ch ++ [Plc.thg (es.getD k 0)]).map Plc.D))) (by simp [Nd.kind]) rfl))
      exact app_ok rfl h.hc (y := (Plc.thg (es.getD k 0)).D) (by simp [Nd.D, St.D, Plc.D, natD, atD_nat st hx', -List.getD_eq_getElem?_getD]) a1
    | make q xs =>
      have hq : (∃ n, d.tabs[q]? = some n ∧ xs.length = n) ∧ ∀ x ∈ xs, x.ok d es := by simpa [Nd.ok, St.ok] using hx
      obtain ⟨⟨n, h1, h2⟩, _⟩ := hq
      obtain ⟨a1, a2⟩ := h.look (.thg q) (by simp [nl] at z1; omega)
      obtain ⟨b1, b2⟩ := a2.chg (.thg q) (by simp [nc, makeC] at z2; omega)
      have en : nc es d.tabs (.s (.make q xs)) = [Plc.thg q] ++ (List.range n).map (Plc.fld q) := by simp [nc, makeC, h1]
      rw [en] at z2
      rw [en]
      have cf := comp_fields (ρ := [some w, some ix, some wd, some nm, some (.tup (es.map natD)), some cd, some bd, some (.loc L), some (.loc C), some (.loc N), ta, pl, some (Nd.s (St.make q xs)).D, some (.str (Nd.s (St.make q xs)).kind), none, none, none, none, none]) (s := (st.set L (.lst ((lo ++ [Plc.thg q]).map Plc.D))).set C (.lst ((ch ++ [Plc.thg q]).map Plc.D))) hw h1 rfl rfl rfl
      refine ⟨(((st.set L (.lst ((lo ++ [Plc.thg q]).map Plc.D))).set C (.lst ((ch ++ [Plc.thg q]).map Plc.D))) ++ [.lst ((ch ++ ([Plc.thg q] ++ (List.range n).map (Plc.fld q))).map Plc.D)]), _, first ?_, b2.new (ch ++ ([Plc.thg q] ++ (List.range n).map (Plc.fld q)))⟩
      refine sSeq_nx (st' := (((st.set L (.lst ((lo ++ [Plc.thg q]).map Plc.D))).set C (.lst ((ch ++ [Plc.thg q]).map Plc.D))) ++ [.lst ((ch ++ ([Plc.thg q] ++ (List.range n).map (Plc.fld q))).map Plc.D)])) (sIf_true (st' := st) (by simp [Nd.kind]) (sSeq_nx (sExp_ok (d := .non) (st' := st.set L (.lst ((lo ++ [Plc.thg q]).map Plc.D))) ?_) (sSeq_nx (sExp_ok (d := .non) (st' := (st.set L (.lst ((lo ++ [Plc.thg q]).map Plc.D))).set C (.lst ((ch ++ [Plc.thg q]).map Plc.D))) ?_) (sSet_ok (st' := (((st.set L (.lst ((lo ++ [Plc.thg q]).map Plc.D))).set C (.lst ((ch ++ [Plc.thg q]).map Plc.D))) ++ [.lst ((ch ++ ([Plc.thg q] ++ (List.range n).map (Plc.fld q))).map Plc.D)])) (d := .loc ((st.set L (.lst ((lo ++ [Plc.thg q]).map Plc.D))).set C (.lst ((ch ++ [Plc.thg q]).map Plc.D))).length) ?_ rfl)))) ?_
      · exact app_ok rfl h.hl (y := (Plc.thg q).D) (by simp [Nd.D, St.D, Plc.D]) a1
      · exact app_ok rfl a2.hc (y := (Plc.thg q).D) (by simp [Nd.D, St.D, Plc.D]) b1
      · rw [cNew_ap, cCatE_ap, cVar_ap]
        simp only [List.getElem?_cons_succ, List.getElem?_cons_zero, R.bind_ok, cf, lstD_at b2.hc, catL]
        rw [if_pos (by simp only [List.length_map, List.length_append, List.length_singleton, List.length_range] at z2 ⊢; exact Nat.le_trans (by omega) sz16), R.bind_ok, ← List.map_append, List.append_assoc]
      refine sSeq_nx (sIf_false (st' := (((st.set L (.lst ((lo ++ [Plc.thg q]).map Plc.D))).set C (.lst ((ch ++ [Plc.thg q]).map Plc.D))) ++ [.lst ((ch ++ ([Plc.thg q] ++ (List.range n).map (Plc.fld q))).map Plc.D)])) (by simp [Nd.kind]) rfl) ?_
      refine sSeq_nx (sIf_false (st' := (((st.set L (.lst ((lo ++ [Plc.thg q]).map Plc.D))).set C (.lst ((ch ++ [Plc.thg q]).map Plc.D))) ++ [.lst ((ch ++ ([Plc.thg q] ++ (List.range n).map (Plc.fld q))).map Plc.D)])) (by simp [Nd.kind]) rfl) ?_
      exact sIf_false (st' := (((st.set L (.lst ((lo ++ [Plc.thg q]).map Plc.D))).set C (.lst ((ch ++ [Plc.thg q]).map Plc.D))) ++ [.lst ((ch ++ ([Plc.thg q] ++ (List.range n).map (Plc.fld q))).map Plc.D)])) (by simp [Nd.kind]) rfl
    | _ => exact none_of (by simp [Nd.kind]) (by simp [Nd.kind]) (by simp [Nd.kind]) (by simp [Nd.kind]) rfl rfl
end
end PMl

set_option Elab.async false
set_option linter.all false
set_option maxRecDepth 100000
set_option maxHeartbeats 2000000
/-! the plain law of k95, 12: _law_touches (printed by mk_L12_k95.py). -/
namespace PMl
open PySem PM L2
section
open Classical
variable {st0 st : Sto} {L C N : Nat} {lo ch : List Plc} {ns : List Nd}
theorem LAt.app (h : LAt st0 L C N st lo ch ns) (g : Sto) : LAt st0 L C N (st ++ g) lo ch ns := ⟨get_app h.hl, get_app h.hc, get_app h.hn, h.ne, h.ge, h.pr.app⟩
/-- a comprehension over a list that is only read -/
theorem comp_map {α : Type} {toD : α → D} {ρ : PM.Env} {i : Nat} {te : E} {t : ET} {s : Sto} (f : α → Bool) (g : α → D) (ht : ∀ x, t (ρ.set i (some (toD x))) s = .ok (f x) s) (he : ∀ x, f x = true → te (ρ.set i (some (toD x))) s = .ok (g x) s) {chk : Sto → Prop} (hc : chk s) : ∀ ps : List α,
    compGo chk (.one i) t te ρ (ps.map toD) s = .ok ((ps.filter f).map g) s
  | [] => compGo_nil hc
  | p :: r => by
    rw [List.map_cons, compGo, if_pos hc]
    show ((cNx (t (ρ.set i (some (toD p))) s)).bind _) = _
    rw [ht p]
    cases h : f p with
    | true => simp [he p h, comp_map f g ht he hc r, h]
    | false => simp [comp_map f g ht he hc r, h]
theorem comp_lst {α : Type} {toD : α → D} {ρ : PM.Env} {i q n : Nat} {te : E} {t : ET} {s : Sto} {ps : List α} (hq : ρ[q]? = some (some (.loc n))) (hn : s[n]? = some (.lst (ps.map toD))) (hz : ps.length ≤ 12000000) (f : α → Bool) (g : α → D) (ht : ∀ x, t ((ρ.set i none).set i (some (toD x))) s = .ok (f x) s) (he : ∀ x, f x = true → te ((ρ.set i none).set i (some (toD x))) s = .ok (g x) s) :
    cComp (cItr (cVar q)) (.one i) t te [i] ρ s = .ok ((ps.filter f).map g) s := by
  have e : cItr (cVar q) ρ s = .ok ⟨fun s' => s'[n]? = some (.lst (ps.map toD)), ps.map toD⟩ s := by simp [hq, itrD, hn]
  rw [cComp_ap, e, R.bind_ok, if_pos (by rw [List.length_map]; exact Nat.le_trans (by omega) sz16)]
  exact comp_map f g ht he hn ps
theorem fm_cons {α β : Type} (p : α → Bool) (f : α → β) (x : α) (r : List α) : ((x :: r).filter p).map f = (if p x = true then [f x] else []) ++ (r.filter p).map f := by
  rw [List.filter_cons]
  split <;> simp
theorem targets_eq : ∀ ns : List Nd, ((ns.filter fun x => decide (x.kind = ("set" : Str))).map fun x => match x with | .s (.set p _) => p.D | _ => .non) = (ns.flatMap nt).map Pl.D
  | [] => rfl
  | x :: r => by
    rw [fm_cons, targets_eq r, List.flatMap_cons, List.map_append]
    congr 1
    cases x with
    | e x => cases x <;> simp [Nd.kind, nt]
    | p x => cases x <;> simp [Nd.kind, nt]
    | s x => cases x <;> simp [Nd.kind, nt]
theorem moves_eq : ∀ ns : List Nd, ((ns.filter fun x => decide (x.kind = ("move" : Str))).map fun x => match x with | .e (.mov _ b) => natD b | _ => .non) = (ns.flatMap nm).map natD
  | [] => rfl
  | x :: r => by
    rw [fm_cons, moves_eq r, List.flatMap_cons, List.map_append]
    congr 1
    cases x with
    | e x => cases x <;> simp [Nd.kind, nm]
    | p x => cases x <;> simp [Nd.kind, nm]
    | s x => cases x <;> simp [Nd.kind, nm]
def allKinds : List Str := ["value", "field", "count", "tick", "number", "not", "draw", "move", "past", "op", "set", "make", "drop", "tell", "if"]
theorem kind_mem (x : Nd) : x.kind ∈ allKinds := by
  cases x with
  | e x => cases x <;> simp [Nd.kind, allKinds]
  | p x => cases x <;> simp [Nd.kind, allKinds]
  | s x => cases x <;> simp [Nd.kind, allKinds]
theorem cl_kinds : ∀ s ∈ allKinds, cl (.str s) = true := by decide +kernel
theorem cl_kind (x : Nd) : cl (.str x.kind) = true := cl_kinds _ (kind_mem x)
theorem each_nd {d : Dims} {es : List Nat} {w ix wd nm cd bd : D} {ta pl : Option D} (hw : WAt w d) : ∀ (xs : List Nd) (st : Sto) (C : Nat) (lo ch : List Plc) (nd ki : Option D), (∀ x ∈ xs, x.ok d es) → LAt st0 L C N st lo ch ns → lo.length + (xs.flatMap (nl es)).length ≤ 12000000 → ch.length + (xs.flatMap (nc es d.tabs)).length ≤ 12000000 → ∃ st' C' nd' ki',
    forGo (fun s => s[N]? = some (.lst (ns.map Nd.D))) (gN 12) nodeBody (xs.map Nd.D) [some w, some ix, some wd, some nm, some (.tup (es.map natD)), some cd, some bd, some (.loc L), some (.loc C), some (.loc N), ta, pl, nd, ki, none, none, none, none, none] st = .nx [some w, some ix, some wd, some nm, some (.tup (es.map natD)), some cd, some bd, some (.loc L), some (.loc C'), some (.loc N), ta, pl, nd', ki', none, none, none, none, none] st' ∧ LAt st0 L C' N st' (lo ++ xs.flatMap (nl es)) (ch ++ xs.flatMap (nc es d.tabs)) ns
  | [], st, C, lo, ch, nd, ki, _, h, _, _ => ⟨st, C, nd, ki, by rw [List.map_nil, forGo_nil h.hn], by simpa using h⟩
  | x :: r, st, C, lo, ch, nd, ki, hx, h, z1, z2 => by
    rw [List.flatMap_cons, List.length_append] at z1 z2
    obtain ⟨st1, C1, e1, t1⟩ := node_ok (ix := ix) (wd := wd) (nm := nm) (cd := cd) (bd := bd) (ta := ta) (pl := pl) (nd0 := none) (ki0 := ki) hw (hx x List.mem_cons_self) h (by omega) (by omega)
    obtain ⟨st2, C2, nd2, ki2, e2, t2⟩ := each_nd (ix := ix) (wd := wd) (nm := nm) (cd := cd) (bd := bd) (ta := ta) (pl := pl) hw r st1 C1 _ _ (some x.D) (some (.str x.kind)) (fun y hy => hx y (List.mem_cons_of_mem _ hy)) t1 (by rw [List.length_append]; omega) (by rw [List.length_append]; omega)
    refine ⟨st2, C2, nd2, ki2, ?_, by simpa using t2⟩
    rw [List.map_cons, forGo_cons h.hn rfl (.inl e1)]
    exact e2
def condNodes : Option Ex → List Nd
  | none => []
  | some e => e.nodes
def condSeen : Option Ex → List Pl
  | none => []
  | some e => e.seen
def Rl.nodes (r : Rl) : List Nd := condNodes r.cond ++ bodyNodes r.body
def Rl.seen (r : Rl) : List Pl := condSeen r.cond ++ bodySeen r.body
def Rl.lookL (r : Rl) : List Plc := r.es.map Plc.thg ++ r.nodes.flatMap (nl r.es) ++ r.seen.map (Pl.plc r.es)
def Rl.chgL (r : Rl) (tabs : List Nat) : List Plc := (r.nodes.flatMap nt).map (Pl.plc r.es) ++ r.nodes.flatMap (nc r.es tabs)
def Rl.knobsL (r : Rl) (nk : Nat) : List Nat := (List.range nk).filter fun b => decide (b ∈ r.nodes.flatMap nm)
theorem walks_rl {d : Dims} (r : Rl) (h : r.ok d) : Walks 60 (.tup [condD r.cond, .tup (bodyD r.body)]) r.nodes := by
  have hc : Walks 59 (condD r.cond) (condNodes r.cond) := by
    cases e : r.cond with
    | none => exact walks_non
    | some x => exact walks_ex x 59 (by have := (h.cond x e).2; omega)
  have hb := walks_body r.body 59 (by have := h.body.2; omega)
  have := walks_tup (n := 59) [(condD r.cond, condNodes r.cond), (.tup (bodyD r.body), bodyNodes r.body)] (by simp) (fun p r' e st => by
    simp at e
    rw [← e.1]
    cases r.cond with
    | none => rfl
    | some x => cases x <;> rfl) (by simp; exact ⟨hc, hb⟩)
  simpa [Rl.nodes] using this
theorem sees_rl {d : Dims} (r : Rl) (h : r.ok d) : Sees 60 (.tup [condD r.cond, .tup (bodyD r.body)]) r.seen := by
  have hc : Sees 59 (condD r.cond) (condSeen r.cond) := by
    cases e : r.cond with
    | none => exact sees_non
    | some x => exact sees_ex x 59 (by have := (h.cond x e).2; omega)
  have hb := sees_body r.body 59 (by have := h.body.2; omega)
  have := sees_tup (n := 59) [(condD r.cond, condSeen r.cond), (.tup (bodyD r.body), bodySeen r.body)] (by simp) (fun p r' e st => by
    simp at e
    rw [← e.1]
    cases r.cond with
    | none => rfl
    | some x => cases x <;> rfl) (by simp; exact ⟨hc, hb⟩)
  simpa [Rl.seen] using this
/-- what is used of sizes and forms -/
structure Rl.sz (d : Dims) (r : Rl) : Prop where
  nodes : r.nodes.length ≤ 11000000
  seen : r.seen.length ≤ 11000000
  look : r.lookL.length ≤ 2000000
  chg : (r.chgL d.tabs).length ≤ 2000000
  nd : ∀ x ∈ r.nodes, x.ok d r.es
  sn : ∀ p ∈ r.seen, p.ok d r.es
  tg : ∀ p ∈ r.nodes.flatMap nt, p.ok d r.es
theorem ltouches_ok {w : D} {d : Dims} {rs : List D} {j : Nat} {r : Rl} (st : Sto) (hw : WAt w d) (h8 : ∀ s, getD w (.int 8) s = .ok (.tup rs) s) (hj : rs[j]? = some r.D) (hr : r.ok d) (hz : r.sz d) :
    m__law_touches [w, .int (j : Int)] st = .ok (.tup [.str "touches", .tup ((ordL r.lookL).map Plc.D), .tup ((ordL (r.chgL d.tabs)).map Plc.D), .bl (decide (("draw" : Str) ∈ r.nodes.map Nd.kind)), .bl (decide (("tell" : Str) ∈ r.nodes.map Nd.kind)), .tup ((sortI ((r.knobsL d.nk).map fun (n : Nat) => (n : Int))).map .int)]) st := by
  have z1 := hz.look
  have z2 := hz.chg
  unfold Rl.lookL at z1
  unfold Rl.chgL at z2
  simp only [List.length_append, List.length_map] at z1 z2
  have z3 := hz.nodes
  have z4 := hz.seen
  -- the lists
  have l0 : LAt st st.length (st.length + 1) (st.length + 2) (st ++ [O.lst ((r.es.map Plc.thg).map Plc.D), .lst [], .lst (r.nodes.map Nd.D), .lst ((r.nodes.flatMap nt).map Pl.D)]) (r.es.map Plc.thg) [] r.nodes :=
    ⟨get_at0, get_atk (k := 0), get_atk (k := 1), by omega, by omega, ⟨_, rfl⟩⟩
  have hT : ((st ++ [O.lst ((r.es.map Plc.thg).map Plc.D), .lst [], .lst (r.nodes.map Nd.D), .lst ((r.nodes.flatMap nt).map Pl.D)]))[st.length + 3]? = some (.lst ((r.nodes.flatMap nt).map Pl.D)) := get_atk (k := 2)
  obtain ⟨st5, x5, e5, l5⟩ := each_target (d := d) (w := w) (ix := .int (j : Int)) (wd := .str "rule") (nm := r.name) (cd := condD r.cond) (bd := .tup (bodyD r.body)) (ta := some (.loc (st.length + 3))) (nd := none) (ki := none) (r.nodes.flatMap nt) _ [] none hz.tg l0 hT (by omega) (by simp only [List.length_nil]; omega)
  obtain ⟨st6, C6, nd6, ki6, e6, l6⟩ := each_nd (ix := .int (j : Int)) (wd := .str "rule") (nm := r.name) (cd := condD r.cond) (bd := .tup (bodyD r.body)) (ta := some (.loc (st.length + 3))) (pl := x5) hw r.nodes st5 _ _ _ none none hz.nd l5 (by simp only [List.length_map]; omega) (by simp only [List.nil_append, List.length_map]; omega)
  obtain ⟨m, g, e7a, h7, le7⟩ := sees_rl r hr st6 (by omega)
  have hl6 := lt_get l6.hl
  obtain ⟨st7, x7, e7, l7⟩ := each_place (d := d) (w := w) (ix := .int (j : Int)) (wd := .str "rule") (nm := r.name) (cd := condD r.cond) (bd := .tup (bodyD r.body)) (ta := some (.loc (st.length + 3))) (nd := nd6) (ki := ki6) r.seen _ _ x5 hz.sn (l6.app g) h7 (by omega) (by simp only [List.length_append, List.length_map]; omega)
  have lf : LAt st st.length C6 (st.length + 2) (st7 ++ [.lst (r.nodes.map fun x => D.str x.kind)]) r.lookL (r.chgL d.tabs) r.nodes := by
    have := l7.app [.lst (r.nodes.map fun x => D.str x.kind)]
    simpa [Rl.lookL, Rl.chgL] using this
  obtain ⟨gf, ef⟩ := lf.pr
  have hK : (st7 ++ [O.lst (r.nodes.map fun x => D.str x.kind)])[st7.length]? = some (.lst (r.nodes.map fun x => D.str x.kind)) := get_new
  have ck : clAll (r.nodes.map fun x => D.str x.kind) = true := clAll_map cl_kind
  have kin : ∀ s : Str, (D.str s ∈ r.nodes.map fun x => D.str x.kind) ↔ s ∈ r.nodes.map Nd.kind := fun s => by simp
  have i1 := inD_lst (x := .str "draw") hK (by decide +kernel) (by simp [depD]) ck
  have i2 := inD_lst (x := .str "tell") hK (by decide +kernel) (by simp [depD]) ck
  have s1 := lsorted_ok lf.hl (Nat.le_trans hz.look (by decide))
  have s2 := lsorted_ok lf.hc (Nat.le_trans hz.chg (by decide))
  refine def_pure (ρ0 := [some w, some (.int (j : Int)), none, none, none, none, none, none, none, none, none, none, none, none, none, none, none, none, none]) (g := gf) rfl ?_ (by simp [below, belowAll, belowAll_plc, below_ints])
  rw [← ef]
  unfold b__law_touches
  have hx : atD rs (.int (j : Int)) st = .ok r.D st := atD_nat st hj
  refine sSeq_nx (ρ' := [some w, some (.int (j : Int)), some (.str "rule"), some r.name, some (.tup (r.es.map natD)), some (condD r.cond), some (.tup (bodyD r.body)), none, none, none, none, none, none, none, none, none, none, none, none]) (st' := st) (by simp [h8, hx, Rl.D, gT, gsCons, gN, gsNil]) ?_
  refine sSeq_nx (ρ' := [some w, some (.int (j : Int)), some (.str "rule"), some r.name, some (.tup (r.es.map natD)), some (condD r.cond), some (.tup (bodyD r.body)), some (.loc st.length), none, none, none, none, none, none, none, none, none, none, none]) (st' := st ++ [.lst ((r.es.map Plc.thg).map Plc.D)]) (sSet_ok (d := .loc st.length) ?_ rfl) ?_
  · have e : cItr (cVar 4) [some w, some (.int (j : Int)), some (.str "rule"), some r.name, some (.tup (r.es.map natD)), some (condD r.cond), some (.tup (bodyD r.body)), none, none, none, none, none, none, none, none, none, none, none, none] st = .ok ⟨fun _ => True, r.es.map natD⟩ st := cItr_tup (by simp)
    have hs := hr.size
    unfold Rl.size at hs
    rw [cNew_ap, cComp_ap, e, R.bind_ok, if_pos (by rw [List.length_map]; exact Nat.le_trans (by omega) sz16), comp_map (toD := natD) (fun _ => true) (fun n => (Plc.thg n).D) (fun _ => rfl) (fun n _ => by simp [wipeD, natD, Plc.D]) trivial]
    rw [List.filter_eq_self.mpr (fun _ _ => rfl)]
    simp [List.map_map, Function.comp_def]
  refine sSeq_nx (ρ' := [some w, some (.int (j : Int)), some (.str "rule"), some r.name, some (.tup (r.es.map natD)), some (condD r.cond), some (.tup (bodyD r.body)), some (.loc st.length), some (.loc (st.length + 1)), none, none, none, none, none, none, none, none, none, none]) (st' := st ++ [.lst ((r.es.map Plc.thg).map Plc.D), .lst []]) (by simp) ?_
  refine sSeq_nx (ρ' := [some w, some (.int (j : Int)), some (.str "rule"), some r.name, some (.tup (r.es.map natD)), some (condD r.cond), some (.tup (bodyD r.body)), some (.loc st.length), some (.loc (st.length + 1)), some (.loc (st.length + 2)), none, none, none, none, none, none, none, none, none]) (st' := (st ++ [O.lst ((r.es.map Plc.thg).map Plc.D), .lst [], .lst (r.nodes.map Nd.D)])) (sSet_ok (d := .loc (st.length + 2)) ?_ rfl) ?_
  · have hw9 := walks_rl r hr (st ++ [O.lst ((r.es.map Plc.thg).map Plc.D), .lst [], .lst []]) (st.length + 2) [] (get_atk (k := 1)) (by simp only [List.length_nil]; omega)
    have es9 : (st ++ [O.lst ((r.es.map Plc.thg).map Plc.D), .lst [], .lst []]).set (st.length + 2) (.lst ([] ++ r.nodes.map Nd.D)) = (st ++ [O.lst ((r.es.map Plc.thg).map Plc.D), .lst [], .lst (r.nodes.map Nd.D)]) := by
      rw [List.set_append_right _ _ (by omega)]
      have : st.length + 2 - st.length = 2 := by omega
      rw [this]; rfl
    rw [es9] at hw9
    simp [hw9, -List.map_map]
  refine sSeq_nx (ρ' := [some w, some (.int (j : Int)), some (.str "rule"), some r.name, some (.tup (r.es.map natD)), some (condD r.cond), some (.tup (bodyD r.body)), some (.loc st.length), some (.loc (st.length + 1)), some (.loc (st.length + 2)), some (.loc (st.length + 3)), none, none, none, none, none, none, none, none]) (st' := (st ++ [O.lst ((r.es.map Plc.thg).map Plc.D), .lst [], .lst (r.nodes.map Nd.D), .lst ((r.nodes.flatMap nt).map Pl.D)])) (sSet_ok (d := .loc (st.length + 3)) ?_ rfl) ?_
  · have hN : ((st ++ [O.lst ((r.es.map Plc.thg).map Plc.D), .lst [], .lst (r.nodes.map Nd.D)]))[st.length + 2]? = some (.lst (r.nodes.map Nd.D)) := get_atk (k := 1)
    have := comp_lst (toD := Nd.D) (ρ := [some w, some (.int (j : Int)), some (.str "rule"), some r.name, some (.tup (r.es.map natD)), some (condD r.cond), some (.tup (bodyD r.body)), some (.loc st.length), some (.loc (st.length + 1)), some (.loc (st.length + 2)), none, none, none, none, none, none, none, none, none]) (i := 12) (q := 9) (n := st.length + 2) (te := cOp2 getD (cVar 12) (cC (.int 1))) (t := cTst (cOp2 eqD (cOp2 getD (cVar 12) (cC (.int 0))) (cC (.str "set")))) (s := (st ++ [O.lst ((r.es.map Plc.thg).map Plc.D), .lst [], .lst (r.nodes.map Nd.D)])) rfl hN (by omega) (fun x => decide (x.kind = ("set" : Str))) (fun x => match x with | .s (.set p _) => p.D | _ => .non) (fun x => by simp [kind_at]) (fun x hx => by
      cases x with
      | e x => cases x <;> simp [Nd.kind] at hx
      | p x => cases x <;> simp [Nd.kind] at hx
      | s x => cases x <;> simp [Nd.kind] at hx <;> simp [Nd.D, St.D])
    rw [targets_eq] at this
    rw [cNew_ap, this]
    simp
  have hN4 : ((st ++ [O.lst ((r.es.map Plc.thg).map Plc.D), .lst [], .lst (r.nodes.map Nd.D), .lst ((r.nodes.flatMap nt).map Pl.D)]))[st.length + 2]? = some (.lst (r.nodes.map Nd.D)) := get_atk (k := 1)
  refine sSeq_nx (ρ' := [some w, some (.int (j : Int)), some (.str "rule"), some r.name, some (.tup (r.es.map natD)), some (condD r.cond), some (.tup (bodyD r.body)), some (.loc st.length), some (.loc (st.length + 1)), some (.loc (st.length + 2)), some (.loc (st.length + 3)), x5, none, none, none, none, none, none, none]) (st' := st5) (sFor_ok (b := ⟨fun s => s[st.length + 3]? = some (.lst ((r.nodes.flatMap nt).map Pl.D)), (r.nodes.flatMap nt).map Pl.D⟩) (st' := (st ++ [O.lst ((r.es.map Plc.thg).map Plc.D), .lst [], .lst (r.nodes.map Nd.D), .lst ((r.nodes.flatMap nt).map Pl.D)])) (by rw [cItr_ap, cVar_ap]; simp only [List.getElem?_cons_succ, List.getElem?_cons_zero, R.bind_ok, itrD, hT]) e5) ?_
  refine sSeq_nx (ρ' := [some w, some (.int (j : Int)), some (.str "rule"), some r.name, some (.tup (r.es.map natD)), some (condD r.cond), some (.tup (bodyD r.body)), some (.loc st.length), some (.loc C6), some (.loc (st.length + 2)), some (.loc (st.length + 3)), x5, nd6, ki6, none, none, none, none, none]) (st' := st6) (sFor_ok (b := ⟨fun s => s[st.length + 2]? = some (.lst (r.nodes.map Nd.D)), r.nodes.map Nd.D⟩) (st' := st5) (by rw [cItr_ap, cVar_ap]; simp only [List.getElem?_cons_succ, List.getElem?_cons_zero, R.bind_ok, itrD, l5.hn]) e6) ?_
  refine sSeq_nx (ρ' := [some w, some (.int (j : Int)), some (.str "rule"), some r.name, some (.tup (r.es.map natD)), some (condD r.cond), some (.tup (bodyD r.body)), some (.loc st.length), some (.loc C6), some (.loc (st.length + 2)), some (.loc (st.length + 3)), x7, nd6, ki6, none, none, none, none, none]) (st' := st7) (sFor_ok (b := ⟨fun s => s[m]? = some (.lst (r.seen.map Pl.D)), r.seen.map Pl.D⟩) (st' := st6 ++ g) (by rw [cItr_ap, cCall_ap]; simp [e7a, itrD, h7]) e7) ?_
  refine sSeq_nx (ρ' := [some w, some (.int (j : Int)), some (.str "rule"), some r.name, some (.tup (r.es.map natD)), some (condD r.cond), some (.tup (bodyD r.body)), some (.loc st.length), some (.loc C6), some (.loc (st.length + 2)), some (.loc (st.length + 3)), x7, nd6, ki6, some (.loc st7.length), none, none, none, none]) (st' := st7 ++ [.lst (r.nodes.map fun x => D.str x.kind)]) (sSet_ok (d := .loc st7.length) ?_ rfl) ?_
  · have := comp_lst (toD := Nd.D) (ρ := [some w, some (.int (j : Int)), some (.str "rule"), some r.name, some (.tup (r.es.map natD)), some (condD r.cond), some (.tup (bodyD r.body)), some (.loc st.length), some (.loc C6), some (.loc (st.length + 2)), some (.loc (st.length + 3)), x7, nd6, ki6, none, none, none, none, none]) (i := 12) (q := 9) (n := st.length + 2) (te := cOp2 getD (cVar 12) (cC (.int 0))) (t := tYesD) (s := st7) rfl l7.hn (by omega) (fun _ => true) (fun x => D.str x.kind) (fun x => rfl) (fun x _ => by simp [kind_at])
    rw [List.filter_eq_self.mpr (fun _ _ => rfl)] at this
    rw [cNew_ap, this, R.bind_ok]
  refine sSeq_nx (ρ' := [some w, some (.int (j : Int)), some (.str "rule"), some r.name, some (.tup (r.es.map natD)), some (condD r.cond), some (.tup (bodyD r.body)), some (.loc st.length), some (.loc C6), some (.loc (st.length + 2)), some (.loc (st.length + 3)), x7, nd6, ki6, some (.loc st7.length), some (.tup ((sortI ((r.knobsL d.nk).map fun (n : Nat) => (n : Int))).map .int)), none, none, none]) (st' := st7 ++ [.lst (r.nodes.map fun x => D.str x.kind)]) (sSet_ok (d := .tup ((sortI ((r.knobsL d.nk).map fun (n : Nat) => (n : Int))).map .int)) ?_ rfl) ?_
  · obtain ⟨x0, xa, xb, ks, vs, ts, tl, rest, ew, hk, _⟩ := hw.form
    have hsm := hw.sm.1
    have hit : cRng1 (cB1 lenD (cOp2 getD (cVar 0) (cC (.int 3)))) [some w, some (.int (j : Int)), some (.str "rule"), some r.name, some (.tup (r.es.map natD)), some (condD r.cond), some (.tup (bodyD r.body)), some (.loc st.length), some (.loc C6), some (.loc (st.length + 2)), some (.loc (st.length + 3)), x7, nd6, ki6, some (.loc st7.length), none, none, none, none] (st7 ++ [.lst (r.nodes.map fun x => D.str x.kind)]) = .ok ⟨fun _ => True, rngD 0 d.nk⟩ (st7 ++ [.lst (r.nodes.map fun x => D.str x.kind)]) := cRng1_ok (by simp [ew, lenD, hk]) (by omega)
    have inner : ∀ n : Nat, cComp (cItr (cVar 9)) (.one 12) (cTst (cOp2 eqD (cOp2 getD (cVar 12) (cC (.int 0))) (cC (.str "move")))) (cOp2 getD (cVar 12) (cC (.int 2))) [12] (([some w, some (.int (j : Int)), some (.str "rule"), some r.name, some (.tup (r.es.map natD)), some (condD r.cond), some (.tup (bodyD r.body)), some (.loc st.length), some (.loc C6), some (.loc (st.length + 2)), some (.loc (st.length + 3)), x7, nd6, ki6, some (.loc st7.length), none, none, none, none]).set 18 (some (natD n))) (st7 ++ [.lst (r.nodes.map fun x => D.str x.kind)]) = .ok ((r.nodes.flatMap nm).map natD) (st7 ++ [.lst (r.nodes.map fun x => D.str x.kind)]) := fun n => by
      have := comp_lst (toD := Nd.D) (ρ := ([some w, some (.int (j : Int)), some (.str "rule"), some r.name, some (.tup (r.es.map natD)), some (condD r.cond), some (.tup (bodyD r.body)), some (.loc st.length), some (.loc C6), some (.loc (st.length + 2)), some (.loc (st.length + 3)), x7, nd6, ki6, some (.loc st7.length), none, none, none, none]).set 18 (some (natD n))) (i := 12) (q := 9) (n := st.length + 2) (te := cOp2 getD (cVar 12) (cC (.int 2))) (t := cTst (cOp2 eqD (cOp2 getD (cVar 12) (cC (.int 0))) (cC (.str "move")))) (s := st7 ++ [.lst (r.nodes.map fun x => D.str x.kind)]) rfl lf.hn (by omega) (fun x => decide (x.kind = ("move" : Str))) (fun x => match x with | .e (.mov _ b) => natD b | _ => .non) (fun x => by simp [kind_at]) (fun x hx => by
        cases x with
        | e x => cases x <;> simp [Nd.kind] at hx <;> simp [Nd.D, Ex.D, natD]
        | p x => cases x <;> simp [Nd.kind] at hx
        | s x => cases x <;> simp [Nd.kind] at hx)
      rw [moves_eq] at this
      exact this
    have mem : ∀ n : Nat, (natD n ∈ (r.nodes.flatMap nm).map natD) ↔ n ∈ r.nodes.flatMap nm := fun n => by
      rw [List.mem_map]
      exact ⟨fun ⟨x, hx, e⟩ => by
        have e : (x : Int) = n := D.int.inj e
        have : x = n := by omega
        exact this ▸ hx, fun hx => ⟨n, hx, rfl⟩⟩
    have outer := comp_map (toD := natD) (ρ := [some w, some (.int (j : Int)), some (.str "rule"), some r.name, some (.tup (r.es.map natD)), some (condD r.cond), some (.tup (bodyD r.body)), some (.loc st.length), some (.loc C6), some (.loc (st.length + 2)), some (.loc (st.length + 3)), x7, nd6, ki6, some (.loc st7.length), none, none, none, none]) (i := 18) (te := cVar 18) (t := cTst (cInL false (cVar 18) (cComp (cItr (cVar 9)) (.one 12) (cTst (cOp2 eqD (cOp2 getD (cVar 12) (cC (.int 0))) (cC (.str "move")))) (cOp2 getD (cVar 12) (cC (.int 2))) [12]))) (s := st7 ++ [.lst (r.nodes.map fun x => D.str x.kind)]) (fun n => decide (n ∈ r.nodes.flatMap nm)) natD (fun n => by
      have hv : cVar 18 (([some w, some (.int (j : Int)), some (.str "rule"), some r.name, some (.tup (r.es.map natD)), some (condD r.cond), some (.tup (bodyD r.body)), some (.loc st.length), some (.loc C6), some (.loc (st.length + 2)), some (.loc (st.length + 3)), x7, nd6, ki6, some (.loc st7.length), none, none, none, none]).set 18 (some (natD n))) (st7 ++ [.lst (r.nodes.map fun x => D.str x.kind)]) = .ok (natD n) (st7 ++ [.lst (r.nodes.map fun x => D.str x.kind)]) := rfl
      rw [cTst_ap, cInL_ap, hv, R.bind_ok, inner n, R.bind_ok, inSeq_cl (x := natD n) rfl (by simp [natD, depD]) (clN _)]
      simp only [mem, Bool.false_bne, asB_ok]) (fun n _ => by simp) (chk := fun _ => True) trivial (List.range d.nk)
    have ens : (List.range d.nk).map natD = rngD 0 d.nk := by rw [rngD_nat]; rfl
    rw [ens] at outer
    rw [cS1_ap, cS1_ap, cComp_ap, hit, R.bind_ok, if_pos (by show (rngD 0 d.nk).length ≤ sizeLine; rw [rngD_len]; exact Nat.le_trans (by omega) sz16)]
    have ew : wipeD [some w, some (.int (j : Int)), some (.str "rule"), some r.name, some (.tup (r.es.map natD)), some (condD r.cond), some (.tup (bodyD r.body)), some (.loc st.length), some (.loc C6), some (.loc (st.length + 2)), some (.loc (st.length + 3)), x7, nd6, ki6, some (.loc st7.length), none, none, none, none] [18] = [some w, some (.int (j : Int)), some (.str "rule"), some r.name, some (.tup (r.es.map natD)), some (condD r.cond), some (.tup (bodyD r.body)), some (.loc st.length), some (.loc C6), some (.loc (st.length + 2)), some (.loc (st.length + 3)), x7, nd6, ki6, some (.loc st7.length), none, none, none, none] := rfl
    rw [ew, outer]
    simp only [R.bind_ok, sortedAS, intsD_nat, tupS]
    rfl
  refine sRet_ok ?_
  simp [s1, s2, i1, i2, kin, lf.hl]
end
end PMl

set_option Elab.async false
set_option linter.all false
set_option maxRecDepth 100000
set_option maxHeartbeats 2000000
/-! the plain law of k95, 13: both answers are one. -/
namespace PMl
open PySem PM L2
section
open Classical
theorem ex_nt : ∀ e : Ex, e.nodes.flatMap nt = []
  | .val _ => rfl | .fld _ _ => rfl | .cnt _ => rfl | .tick => rfl | .num _ => rfl
  | .not e => by simp [Ex.nodes, nt, ex_nt e] | .drw e => by simp [Ex.nodes, nt, ex_nt e] | .mov e _ => by simp [Ex.nodes, nt, ex_nt e]
  | .past _ _ e => by simp [Ex.nodes, nt, ex_nt e]
  | .op _ a b => by simp [Ex.nodes, nt, ex_nt a, ex_nt b]
theorem ex_nc (es tabs : List Nat) : ∀ e : Ex, e.nodes.flatMap (nc es tabs) = []
  | .val _ => rfl | .fld _ _ => rfl | .cnt _ => rfl | .tick => rfl | .num _ => rfl
  | .not e => by simp [Ex.nodes, nc, ex_nc es tabs e] | .drw e => by simp [Ex.nodes, nc, ex_nc es tabs e] | .mov e _ => by simp [Ex.nodes, nc, ex_nc es tabs e]
  | .past _ _ e => by simp [Ex.nodes, nc, ex_nc es tabs e]
  | .op _ a b => by simp [Ex.nodes, nc, ex_nc es tabs a, ex_nc es tabs b]
theorem exs_nt : ∀ xs : List Ex, (xs.flatMap Ex.nodes).flatMap nt = []
  | [] => rfl
  | e :: r => by rw [List.flatMap_cons, List.flatMap_append, ex_nt e, exs_nt r]; rfl
theorem exs_nc (es tabs : List Nat) : ∀ xs : List Ex, (xs.flatMap Ex.nodes).flatMap (nc es tabs) = []
  | [] => rfl
  | e :: r => by rw [List.flatMap_cons, List.flatMap_append, ex_nc es tabs e, exs_nc es tabs r]; rfl
theorem ex_look (es : List Nat) (p : Plc) : ∀ e : Ex, p ∈ e.look es ↔ p ∈ e.nodes.flatMap (nl es) ∨ p ∈ e.seen.map (Pl.plc es)
  | .val _ => by simp [Ex.look, Ex.nodes, Ex.seen, nl, Pl.plc]
  | .fld _ _ => by simp [Ex.look, Ex.nodes, Ex.seen, nl, Pl.plc]
  | .cnt _ => by simp [Ex.look, Ex.nodes, Ex.seen, nl]
  | .tick => by simp [Ex.look, Ex.nodes, Ex.seen, nl]
  | .num _ => by simp [Ex.look, Ex.nodes, Ex.seen, nl]
  | .not e => by
    have ih := ex_look es p e
    simp only [Ex.look, Ex.nodes, Ex.seen, List.flatMap_cons, nl, List.nil_append]; exact ih
  | .drw e => by
    have ih := ex_look es p e
    simp only [Ex.look, Ex.nodes, Ex.seen, List.flatMap_cons, nl, List.nil_append]; exact ih
  | .mov e _ => by
    have ih := ex_look es p e
    simp only [Ex.look, Ex.nodes, Ex.seen, List.flatMap_cons, nl, List.nil_append]; exact ih
  | .past k f e => by
    have ih := ex_look es p e
    simp only [Ex.look, Ex.nodes, Ex.seen, List.flatMap_cons, nl, List.singleton_append, List.mem_cons, ih, or_assoc]
  | .op _ a b => by
    have iha := ex_look es p a
    have ihb := ex_look es p b
    simp only [Ex.look, Ex.nodes, Ex.seen, List.flatMap_cons, nl, List.nil_append, List.flatMap_append, List.map_append, List.mem_append, iha, ihb]
    constructor <;> (intro h; rcases h with (h | h) | (h | h) <;> simp [h])
theorem exs_look (es : List Nat) (p : Plc) : ∀ xs : List Ex, p ∈ xs.flatMap (Ex.look es) ↔ p ∈ (xs.flatMap Ex.nodes).flatMap (nl es) ∨ p ∈ (xs.flatMap Ex.seen).map (Pl.plc es)
  | [] => by simp
  | e :: r => by
    have h1 := ex_look es p e
    have h2 := exs_look es p r
    simp only [List.flatMap_cons, List.flatMap_append, List.map_append, List.mem_append, h1, h2]
    constructor <;> (intro h; rcases h with (h | h) | (h | h) <;> simp [h])
mutual
theorem st_look (es : List Nat) (p : Plc) : ∀ s : St, p ∈ s.look es ↔ p ∈ s.nodes.flatMap (nl es) ∨ p ∈ s.seen.map (Pl.plc es)
  | .set q e => by
    have h := ex_look es p e
    simp only [St.look, St.nodes, St.seen, List.flatMap_cons, nl, List.nil_append]; exact h
  | .make t xs => by
    have h := exs_look es p xs
    simp only [St.look, St.nodes, St.seen, List.flatMap_cons, nl, List.singleton_append, List.mem_cons, h, or_assoc]
  | .drop k => by simp [St.look, St.nodes, St.seen, nl]
  | .tell m e => by
    have h := ex_look es p e
    simp only [St.look, St.nodes, St.seen, List.flatMap_cons, nl, List.nil_append]; exact h
  | .iff e a b => by
    have h := ex_look es p e
    have ha := body_look es p a
    have hb := body_look es p b
    simp only [St.look, St.nodes, St.seen, List.flatMap_cons, nl, List.nil_append, List.flatMap_append, List.map_append, List.mem_append, h, ha, hb]
    constructor
    · intro h; rcases h with ((h | h) | (h | h)) | (h | h) <;> simp [h]
    · intro h; rcases h with ((h | h) | h) | ((h | h) | h) <;> simp [h]
theorem body_look (es : List Nat) (p : Plc) : ∀ b : List St, p ∈ bodyLook es b ↔ p ∈ (bodyNodes b).flatMap (nl es) ∨ p ∈ (bodySeen b).map (Pl.plc es)
  | [] => by simp [bodyLook, bodyNodes, bodySeen]
  | s :: r => by
    have h1 := st_look es p s
    have h2 := body_look es p r
    simp only [bodyLook, bodyNodes, bodySeen, List.flatMap_append, List.map_append, List.mem_append, h1, h2]
    constructor <;> (intro h; rcases h with (h | h) | (h | h) <;> simp [h])
end
mutual
theorem st_chg (es tabs : List Nat) (p : Plc) : ∀ s : St, p ∈ s.chg es tabs ↔ p ∈ (s.nodes.flatMap nt).map (Pl.plc es) ∨ p ∈ s.nodes.flatMap (nc es tabs)
  | .set q e => by simp only [St.chg, St.nodes, List.flatMap_cons, nt, nc, List.nil_append, ex_nt, ex_nc]; simp
  | .make t xs => by simp only [St.chg, St.nodes, List.flatMap_cons, nt, nc, List.nil_append, exs_nt, exs_nc]; simp
  | .drop k => by simp [St.chg, St.nodes, nt, nc]
  | .tell m e => by simp only [St.chg, St.nodes, List.flatMap_cons, nt, nc, List.nil_append, ex_nt, ex_nc]; simp
  | .iff e a b => by
    have ha := body_chg es tabs p a
    have hb := body_chg es tabs p b
    simp only [St.chg, St.nodes, List.flatMap_cons, nt, nc, List.nil_append, List.flatMap_append, ex_nt, ex_nc, List.map_append, List.mem_append, ha, hb]
    constructor <;> (intro h; rcases h with (h | h) | (h | h) <;> simp [h])
theorem body_chg (es tabs : List Nat) (p : Plc) : ∀ b : List St, p ∈ bodyChg es tabs b ↔ p ∈ ((bodyNodes b).flatMap nt).map (Pl.plc es) ∨ p ∈ (bodyNodes b).flatMap (nc es tabs)
  | [] => by simp [bodyChg, bodyNodes]
  | s :: r => by
    have h1 := st_chg es tabs p s
    have h2 := body_chg es tabs p r
    simp only [bodyChg, bodyNodes, List.flatMap_append, List.map_append, List.mem_append, h1, h2]
    constructor <;> (intro h; rcases h with (h | h) | (h | h) <;> simp [h])
end
theorem ex_draws : ∀ e : Ex, (("draw" : Str) ∈ e.nodes.map Nd.kind) ↔ e.draws = true
  | .val _ => by simp [Ex.nodes, Nd.kind, Ex.draws]
  | .fld _ _ => by simp [Ex.nodes, Nd.kind, Ex.draws]
  | .cnt _ => by simp [Ex.nodes, Nd.kind, Ex.draws]
  | .tick => by simp [Ex.nodes, Nd.kind, Ex.draws]
  | .num _ => by simp [Ex.nodes, Nd.kind, Ex.draws]
  | .not e => by rw [Ex.nodes, List.map_cons, List.mem_cons, ex_draws e]; simp [Nd.kind, Ex.draws]
  | .drw e => by rw [Ex.nodes, List.map_cons, List.mem_cons]; simp [Nd.kind, Ex.draws]
  | .mov e _ => by rw [Ex.nodes, List.map_cons, List.mem_cons, ex_draws e]; simp [Nd.kind, Ex.draws]
  | .past _ _ e => by rw [Ex.nodes, List.map_cons, List.mem_cons, ex_draws e]; simp [Nd.kind, Ex.draws]
  | .op _ a b => by rw [Ex.nodes, List.map_cons, List.mem_cons, List.map_append, List.mem_append, ex_draws a, ex_draws b]; simp [Nd.kind, Ex.draws]
theorem exs_draws : ∀ xs : List Ex, (("draw" : Str) ∈ (xs.flatMap Ex.nodes).map Nd.kind) ↔ xs.any Ex.draws = true
  | [] => by simp
  | e :: r => by rw [List.flatMap_cons, List.map_append, List.mem_append, ex_draws e, exs_draws r, List.any_cons, Bool.or_eq_true]
mutual
theorem st_draws : ∀ s : St, (("draw" : Str) ∈ s.nodes.map Nd.kind) ↔ s.draws = true
  | .set q e => by
    have hq : (Nd.p q).kind = "value" ∨ (Nd.p q).kind = "field" := by cases q <;> simp [Nd.kind]
    rw [St.nodes, List.map_cons, List.map_cons, List.mem_cons, List.mem_cons, ex_draws e]
    rcases hq with hq | hq <;> rw [hq] <;> simp [Nd.kind, St.draws]
  | .make t xs => by rw [St.nodes, List.map_cons, List.mem_cons, exs_draws xs]; simp [Nd.kind, St.draws]
  | .drop k => by simp [St.nodes, Nd.kind, St.draws]
  | .tell m e => by rw [St.nodes, List.map_cons, List.mem_cons, ex_draws e]; simp [Nd.kind, St.draws]
  | .iff e a b => by rw [St.nodes, List.map_cons, List.mem_cons, List.map_append, List.map_append, List.mem_append, List.mem_append, ex_draws e, body_draws a, body_draws b]; simp [Nd.kind, St.draws]
theorem body_draws : ∀ b : List St, (("draw" : Str) ∈ (bodyNodes b).map Nd.kind) ↔ bodyDraws b = true
  | [] => by simp [bodyNodes, bodyDraws]
  | s :: r => by rw [bodyNodes, List.map_append, List.mem_append, st_draws s, body_draws r, bodyDraws, Bool.or_eq_true]
end
theorem ex_tells : ∀ e : Ex, ¬ (("tell" : Str) ∈ e.nodes.map Nd.kind)
  | .val _ => by simp [Ex.nodes, Nd.kind]
  | .fld _ _ => by simp [Ex.nodes, Nd.kind]
  | .cnt _ => by simp [Ex.nodes, Nd.kind]
  | .tick => by simp [Ex.nodes, Nd.kind]
  | .num _ => by simp [Ex.nodes, Nd.kind]
  | .not e => by rw [Ex.nodes, List.map_cons, List.mem_cons, not_or]; exact ⟨by simp [Nd.kind], ex_tells e⟩
  | .drw e => by rw [Ex.nodes, List.map_cons, List.mem_cons, not_or]; exact ⟨by simp [Nd.kind], ex_tells e⟩
  | .mov e _ => by rw [Ex.nodes, List.map_cons, List.mem_cons, not_or]; exact ⟨by simp [Nd.kind], ex_tells e⟩
  | .past _ _ e => by rw [Ex.nodes, List.map_cons, List.mem_cons, not_or]; exact ⟨by simp [Nd.kind], ex_tells e⟩
  | .op _ a b => by rw [Ex.nodes, List.map_cons, List.mem_cons, List.map_append, List.mem_append, not_or, not_or]; exact ⟨by simp [Nd.kind], ex_tells a, ex_tells b⟩
theorem exs_tells : ∀ xs : List Ex, ¬ (("tell" : Str) ∈ (xs.flatMap Ex.nodes).map Nd.kind)
  | [] => by simp
  | e :: r => by rw [List.flatMap_cons, List.map_append, List.mem_append, not_or]; exact ⟨ex_tells e, exs_tells r⟩
mutual
theorem st_tells : ∀ s : St, (("tell" : Str) ∈ s.nodes.map Nd.kind) ↔ s.tells = true
  | .set q e => by
    have hq : (Nd.p q).kind = "value" ∨ (Nd.p q).kind = "field" := by cases q <;> simp [Nd.kind]
    have he := ex_tells e
    rw [St.nodes, List.map_cons, List.map_cons, List.mem_cons, List.mem_cons]
    rcases hq with hq | hq <;> rw [hq] <;> simp only [he, or_false] <;> simp [Nd.kind, St.tells]
  | .make t xs => by
    have he := exs_tells xs
    rw [St.nodes, List.map_cons, List.mem_cons]; simp only [he, or_false]; simp [Nd.kind, St.tells]
  | .drop k => by simp [St.nodes, Nd.kind, St.tells]
  | .tell m e => by rw [St.nodes, List.map_cons, List.mem_cons]; simp [Nd.kind, St.tells]
  | .iff e a b => by
    have he := ex_tells e
    rw [St.nodes, List.map_cons, List.mem_cons, List.map_append, List.map_append, List.mem_append, List.mem_append, body_tells a, body_tells b]; simp only [he, false_or]; simp [Nd.kind, St.tells]
theorem body_tells : ∀ b : List St, (("tell" : Str) ∈ (bodyNodes b).map Nd.kind) ↔ bodyTells b = true
  | [] => by simp [bodyNodes, bodyTells]
  | s :: r => by rw [bodyNodes, List.map_append, List.mem_append, st_tells s, body_tells r, bodyTells, Bool.or_eq_true]
end
theorem ex_knobs (q : Nat) : ∀ e : Ex, q ∈ e.knobs ↔ q ∈ e.nodes.flatMap nm
  | .val _ => by simp [Ex.nodes, nm, Ex.knobs]
  | .fld _ _ => by simp [Ex.nodes, nm, Ex.knobs]
  | .cnt _ => by simp [Ex.nodes, nm, Ex.knobs]
  | .tick => by simp [Ex.nodes, nm, Ex.knobs]
  | .num _ => by simp [Ex.nodes, nm, Ex.knobs]
  | .not e => by rw [Ex.nodes, List.flatMap_cons, List.mem_append, ← ex_knobs q e]; simp [nm, Ex.knobs]
  | .drw e => by rw [Ex.nodes, List.flatMap_cons, List.mem_append, ← ex_knobs q e]; simp [nm, Ex.knobs]
  | .mov e b => by rw [Ex.nodes, List.flatMap_cons, List.mem_append, ← ex_knobs q e]; simp [nm, Ex.knobs]
  | .past _ _ e => by rw [Ex.nodes, List.flatMap_cons, List.mem_append, ← ex_knobs q e]; simp [nm, Ex.knobs]
  | .op _ a b => by rw [Ex.nodes, List.flatMap_cons, List.mem_append, List.flatMap_append, List.mem_append, ← ex_knobs q a, ← ex_knobs q b]; simp [nm, Ex.knobs]
theorem exs_knobs (q : Nat) : ∀ xs : List Ex, q ∈ xs.flatMap Ex.knobs ↔ q ∈ (xs.flatMap Ex.nodes).flatMap nm
  | [] => by simp
  | e :: r => by rw [List.flatMap_cons, List.flatMap_cons, List.flatMap_append, List.mem_append, List.mem_append, ex_knobs q e, exs_knobs q r]
mutual
theorem st_knobs (q : Nat) : ∀ s : St, q ∈ s.knobs ↔ q ∈ s.nodes.flatMap nm
  | .set p e => by rw [St.nodes, List.flatMap_cons, List.flatMap_cons, List.mem_append, List.mem_append, ← ex_knobs q e]; simp [nm, St.knobs]
  | .make t xs => by rw [St.nodes, List.flatMap_cons, List.mem_append, ← exs_knobs q xs]; simp [nm, St.knobs]
  | .drop k => by simp [St.nodes, nm, St.knobs]
  | .tell m e => by rw [St.nodes, List.flatMap_cons, List.mem_append, ← ex_knobs q e]; simp [nm, St.knobs]
  | .iff e a b => by rw [St.nodes, List.flatMap_cons, List.mem_append, List.flatMap_append, List.flatMap_append, List.mem_append, List.mem_append, ← ex_knobs q e, ← body_knobs q a, ← body_knobs q b]; simp [nm, St.knobs, or_assoc]
theorem body_knobs (q : Nat) : ∀ b : List St, q ∈ bodyKnobs b ↔ q ∈ (bodyNodes b).flatMap nm
  | [] => by simp [bodyNodes, bodyKnobs]
  | s :: r => by rw [bodyNodes, List.flatMap_append, List.mem_append, ← st_knobs q s, ← body_knobs q r, bodyKnobs, List.mem_append]
end
/-! all is well formed -/
theorem ex_nd {d : Dims} {es : List Nat} : ∀ e : Ex, e.ok d es → ∀ x ∈ e.nodes, x.ok d es
  | .val _, h => by simpa [Ex.nodes, Nd.ok] using h
  | .fld _ _, h => by simpa [Ex.nodes, Nd.ok] using h
  | .cnt _, h => by simpa [Ex.nodes, Nd.ok] using h
  | .tick, h => by simpa [Ex.nodes, Nd.ok] using h
  | .num _, h => by simpa [Ex.nodes, Nd.ok] using h
  | .not e, h => by simp only [Ex.nodes, List.forall_mem_cons]; exact ⟨h, ex_nd e h⟩
  | .drw e, h => by simp only [Ex.nodes, List.forall_mem_cons]; exact ⟨h, ex_nd e h⟩
  | .mov e _, h => by simp only [Ex.nodes, List.forall_mem_cons]; exact ⟨h, ex_nd e h.1⟩
  | .past _ _ e, h => by simp only [Ex.nodes, List.forall_mem_cons]; exact ⟨h, ex_nd e h.2⟩
  | .op _ a b, h => by simp only [Ex.nodes, List.forall_mem_cons, List.forall_mem_append]; exact ⟨h, ex_nd a h.2.1, ex_nd b h.2.2⟩
theorem exs_nd {d : Dims} {es : List Nat} : ∀ xs : List Ex, (∀ x ∈ xs, x.ok d es) → ∀ x ∈ xs.flatMap Ex.nodes, x.ok d es
  | [], _ => by simp
  | e :: r, h => by
    rw [List.flatMap_cons, List.forall_mem_append]
    exact ⟨ex_nd e (h e List.mem_cons_self), exs_nd r fun y hy => h y (List.mem_cons_of_mem _ hy)⟩
mutual
theorem st_nd {d : Dims} {es : List Nat} : ∀ s : St, s.ok d es → ∀ x ∈ s.nodes, x.ok d es
  | .set p e, h => by
    have h' := h
    simp only [St.ok] at h'
    simp only [St.nodes, List.forall_mem_cons]; exact ⟨h, h'.1, ex_nd e h'.2⟩
  | .make t xs, h => by
    have h' := h
    simp only [St.ok] at h'
    simp only [St.nodes, List.forall_mem_cons]; exact ⟨h, exs_nd xs h'.2⟩
  | .drop k, h => by simp only [St.nodes, List.forall_mem_cons]; exact ⟨h, by simp⟩
  | .tell m e, h => by
    have h' := h
    simp only [St.ok] at h'
    simp only [St.nodes, List.forall_mem_cons]; exact ⟨h, ex_nd e h'.2⟩
  | .iff e a b, h => by
    have h' := h
    simp only [St.ok] at h'
    simp only [St.nodes, List.forall_mem_cons, List.forall_mem_append]; exact ⟨h, ⟨ex_nd e h'.1, body_nd a h'.2.1⟩, body_nd b h'.2.2⟩
theorem body_nd {d : Dims} {es : List Nat} : ∀ b : List St, bodyOk d es b → ∀ x ∈ bodyNodes b, x.ok d es
  | [], _ => by simp [bodyNodes]
  | s :: r, h => by
    simp only [bodyOk] at h
    simp only [bodyNodes, List.forall_mem_append]; exact ⟨st_nd s h.1, body_nd r h.2⟩
end
theorem ex_sn {d : Dims} {es : List Nat} : ∀ e : Ex, e.ok d es → ∀ x ∈ e.seen, x.ok d es
  | .val _, h => by simpa [Ex.seen, Pl.ok, Ex.ok] using h
  | .fld _ _, h => by simpa [Ex.seen, Pl.ok, Ex.ok] using h
  | .cnt _, h => by simp [Ex.seen]
  | .tick, h => by simp [Ex.seen]
  | .num _, h => by simp [Ex.seen]
  | .not e, h => ex_sn e h
  | .drw e, h => ex_sn e h
  | .mov e _, h => ex_sn e h.1
  | .past _ _ e, h => ex_sn e h.2
  | .op _ a b, h => by simp only [Ex.seen, List.forall_mem_append]; exact ⟨ex_sn a h.2.1, ex_sn b h.2.2⟩
theorem exs_sn {d : Dims} {es : List Nat} : ∀ xs : List Ex, (∀ x ∈ xs, x.ok d es) → ∀ x ∈ xs.flatMap Ex.seen, x.ok d es
  | [], _ => by simp
  | e :: r, h => by
    rw [List.flatMap_cons, List.forall_mem_append]
    exact ⟨ex_sn e (h e List.mem_cons_self), exs_sn r fun y hy => h y (List.mem_cons_of_mem _ hy)⟩
mutual
theorem st_sn {d : Dims} {es : List Nat} : ∀ s : St, s.ok d es → ∀ x ∈ s.seen, x.ok d es
  | .set p e, h => by simp only [St.ok] at h; exact ex_sn e h.2
  | .make t xs, h => by simp only [St.ok] at h; exact exs_sn xs h.2
  | .drop k, h => by simp [St.seen]
  | .tell m e, h => by simp only [St.ok] at h; exact ex_sn e h.2
  | .iff e a b, h => by
    simp only [St.ok] at h
    simp only [St.seen, List.forall_mem_append]; exact ⟨⟨ex_sn e h.1, body_sn a h.2.1⟩, body_sn b h.2.2⟩
theorem body_sn {d : Dims} {es : List Nat} : ∀ b : List St, bodyOk d es b → ∀ x ∈ bodySeen b, x.ok d es
  | [], _ => by simp [bodySeen]
  | s :: r, h => by
    simp only [bodyOk] at h
    simp only [bodySeen, List.forall_mem_append]; exact ⟨st_sn s h.1, body_sn r h.2⟩
end
theorem nt_ok {d : Dims} {es : List Nat} {ns : List Nd} (h : ∀ x ∈ ns, x.ok d es) : ∀ p ∈ ns.flatMap nt, p.ok d es := fun p hp => by
  obtain ⟨x, hx, h2⟩ := List.mem_flatMap.mp hp
  have h3 := h x hx
  cases x with
  | e x => simp [nt] at h2
  | p x => simp [nt] at h2
  | s x =>
    cases x <;> simp [nt] at h2
    subst h2
    simp only [Nd.ok, St.ok] at h3
    exact h3.1
/-! sizes -/
theorem ex_ls (es : List Nat) : ∀ e : Ex, (e.nodes.flatMap (nl es)).length + e.seen.length ≤ e.size
  | .val _ => by simp [Ex.nodes, nl, Ex.seen, Ex.size]
  | .fld _ _ => by simp [Ex.nodes, nl, Ex.seen, Ex.size]
  | .cnt _ => by simp [Ex.nodes, nl, Ex.seen, Ex.size]
  | .tick => by simp [Ex.nodes, nl, Ex.seen, Ex.size]
  | .num _ => by simp [Ex.nodes, nl, Ex.seen, Ex.size]
  | .not e => by have := ex_ls es e; simp only [Ex.nodes, List.flatMap_cons, nl, List.nil_append, Ex.seen, Ex.size]; omega
  | .drw e => by have := ex_ls es e; simp only [Ex.nodes, List.flatMap_cons, nl, List.nil_append, Ex.seen, Ex.size]; omega
  | .mov e _ => by have := ex_ls es e; simp only [Ex.nodes, List.flatMap_cons, nl, List.nil_append, Ex.seen, Ex.size]; omega
  | .past _ _ e => by have := ex_ls es e; simp only [Ex.nodes, List.flatMap_cons, nl, List.singleton_append, List.length_cons, Ex.seen, Ex.size]; omega
  | .op _ a b => by have := ex_ls es a; have := ex_ls es b; simp only [Ex.nodes, List.flatMap_cons, nl, List.nil_append, List.flatMap_append, List.length_append, Ex.seen, Ex.size]; omega
theorem exs_ls (es : List Nat) : ∀ xs : List Ex, ((xs.flatMap Ex.nodes).flatMap (nl es)).length + (xs.flatMap Ex.seen).length ≤ sizes xs
  | [] => by simp [sizes]
  | e :: r => by
    have := ex_ls es e; have := exs_ls es r
    simp only [List.flatMap_cons, List.flatMap_append, List.length_append, sizes]; omega
mutual
theorem st_ls (es : List Nat) : ∀ s : St, (s.nodes.flatMap (nl es)).length + s.seen.length ≤ s.size
  | .set p e => by have := ex_ls es e; simp only [St.nodes, List.flatMap_cons, nl, List.nil_append, St.seen, St.size]; omega
  | .make t xs => by have := exs_ls es xs; simp only [St.nodes, List.flatMap_cons, nl, List.singleton_append, List.length_cons, St.seen, St.size]; omega
  | .drop k => by simp [St.nodes, nl, St.seen, St.size]
  | .tell m e => by have := ex_ls es e; simp only [St.nodes, List.flatMap_cons, nl, List.nil_append, St.seen, St.size]; omega
  | .iff e a b => by
    have := ex_ls es e; have := body_ls es a; have := body_ls es b
    simp only [St.nodes, List.flatMap_cons, nl, List.nil_append, List.flatMap_append, List.length_append, St.seen, St.size]; omega
theorem body_ls (es : List Nat) : ∀ b : List St, ((bodyNodes b).flatMap (nl es)).length + (bodySeen b).length ≤ bodySize b
  | [] => by simp [bodyNodes, bodySeen, bodySize]
  | s :: r => by
    have := st_ls es s; have := body_ls es r
    simp only [bodyNodes, bodySeen, bodySize, List.flatMap_append, List.length_append]; omega
end
mutual
theorem st_cs {d : Dims} {es : List Nat} : ∀ s : St, s.ok d es → (s.nodes.flatMap nt).length + (s.nodes.flatMap (nc es d.tabs)).length ≤ s.size
  | .set p e, _ => by simp only [St.nodes, List.flatMap_cons, nt, nc, ex_nt, ex_nc, St.size]; simp
  | .make t xs, h => by
    simp only [St.ok] at h
    obtain ⟨⟨n, h1, h2⟩, _⟩ := h
    have := sizes_len xs
    simp only [St.nodes, List.flatMap_cons, nt, nc, exs_nt, exs_nc, St.size]
    simp [makeC, h1]; omega
  | .drop k, _ => by simp [St.nodes, nt, nc, St.size]
  | .tell m e, _ => by simp only [St.nodes, List.flatMap_cons, nt, nc, ex_nt, ex_nc, St.size]; simp
  | .iff e a b, h => by
    simp only [St.ok] at h
    have := body_cs a h.2.1; have := body_cs b h.2.2
    simp only [St.nodes, List.flatMap_cons, nt, nc, List.nil_append, List.flatMap_append, ex_nt, ex_nc, List.length_append, St.size]; omega
theorem body_cs {d : Dims} {es : List Nat} : ∀ b : List St, bodyOk d es b → ((bodyNodes b).flatMap nt).length + ((bodyNodes b).flatMap (nc es d.tabs)).length ≤ bodySize b
  | [], _ => by simp [bodyNodes, bodySize]
  | s :: r, h => by
    simp only [bodyOk] at h
    have := st_cs s h.1; have := body_cs r h.2
    simp only [bodyNodes, bodySize, List.flatMap_append, List.length_append]; omega
end
theorem rl_sz {d : Dims} {r : Rl} (h : r.ok d) : r.sz d := by
  have hs := h.size
  unfold Rl.size at hs
  have c1 : (condNodes r.cond).length = condSize r.cond := by
    cases r.cond with
    | none => rfl
    | some e => exact nodes_size e
  have c2 : (condSeen r.cond).length ≤ condSize r.cond := by
    cases r.cond with
    | none => simp [condSeen]
    | some e => exact seen_size e
  have c3 : ((condNodes r.cond).flatMap (nl r.es)).length + (condSeen r.cond).length ≤ condSize r.cond := by
    cases r.cond with
    | none => simp [condSeen, condNodes]
    | some e => exact ex_ls _ e
  have c4 : (condNodes r.cond).flatMap nt = [] ∧ (condNodes r.cond).flatMap (nc r.es d.tabs) = [] := by
    cases r.cond with
    | none => simp [condNodes]
    | some e => exact ⟨ex_nt e, ex_nc _ _ e⟩
  have c5 : ∀ x ∈ condNodes r.cond, x.ok d r.es := by
    cases e : r.cond with
    | none => simp [condNodes]
    | some x => exact ex_nd x (h.cond x e).1
  have c6 : ∀ x ∈ condSeen r.cond, x.ok d r.es := by
    cases e : r.cond with
    | none => simp [condSeen]
    | some x => exact ex_sn x (h.cond x e).1
  have b1 := bodyNodes_size r.body
  have b2 := bodySeen_size r.body
  have b3 := body_ls r.es r.body
  have b4 := body_cs r.body h.body.1
  have nd : ∀ x ∈ r.nodes, x.ok d r.es := by
    unfold Rl.nodes
    rw [List.forall_mem_append]
    exact ⟨c5, body_nd r.body h.body.1⟩
  refine ⟨?_, ?_, ?_, ?_, nd, ?_, nt_ok nd⟩
  · unfold Rl.nodes; rw [List.length_append]; omega
  · unfold Rl.seen; rw [List.length_append]; omega
  · unfold Rl.lookL Rl.nodes Rl.seen
    simp only [List.length_append, List.length_map, List.flatMap_append]; omega
  · unfold Rl.chgL Rl.nodes
    simp only [List.length_append, List.length_map, List.flatMap_append, c4.1, c4.2, List.length_nil]; omega
  · unfold Rl.seen
    rw [List.forall_mem_append]
    exact ⟨c6, body_sn r.body h.body.1⟩
/-! one answer -/
theorem addK_mem {xs : List Nat} {p q : Nat} : q ∈ addK xs p ↔ q ∈ xs ∨ q = p := by
  unfold addK
  split
  · rename_i h
    exact ⟨.inl, fun z => z.elim id fun e => e ▸ h⟩
  · simp
theorem addKs_mem {q : Nat} : ∀ {ps xs : List Nat}, q ∈ addKs xs ps ↔ q ∈ xs ∨ q ∈ ps
  | [], xs => by simp [addKs]
  | p :: ps, xs => by
    show q ∈ addKs (addK xs p) ps ↔ _
    rw [addKs_mem, addK_mem, List.mem_cons, or_assoc]
theorem addKs_nodup : ∀ {ps xs : List Nat}, xs.Nodup → (addKs xs ps).Nodup
  | [], _, h => h
  | p :: ps, xs, h => addKs_nodup (xs := addK xs p) (by
    unfold addK
    split
    · exact h
    · rename_i hp
      rw [List.nodup_append]
      exact ⟨h, by simp, fun a ha b hb => by
        rw [List.mem_singleton] at hb
        subst hb
        exact fun e => hp (e ▸ ha)⟩)
theorem sortI_perm {a b : List Int} (h : a.Perm b) : sortI a = sortI b := by
  have h1 : (sortI a).Perm a := List.mergeSort_perm _ _
  refine sortI_uniq (h1.trans h) ?_
  have := List.pairwise_mergeSort (le := fun a b : Int => decide (a ≤ b)) (fun a b c h1 h2 => by simp at *; omega) (fun a b => by simp; omega) a
  exact this.imp fun h => by simpa using h
theorem ex_kb {d : Dims} {es : List Nat} : ∀ e : Ex, e.ok d es → ∀ q ∈ e.knobs, q < d.nk
  | .val _, h => by simp [Ex.knobs]
  | .fld _ _, h => by simp [Ex.knobs]
  | .cnt _, h => by simp [Ex.knobs]
  | .tick, h => by simp [Ex.knobs]
  | .num _, h => by simp [Ex.knobs]
  | .not e, h => ex_kb e h
  | .drw e, h => ex_kb e h
  | .mov e b, h => by simp only [Ex.knobs, List.forall_mem_cons]; exact ⟨h.2, ex_kb e h.1⟩
  | .past _ _ e, h => ex_kb e h.2
  | .op _ a b, h => by simp only [Ex.knobs, List.forall_mem_append]; exact ⟨ex_kb a h.2.1, ex_kb b h.2.2⟩
theorem nm_kb {d : Dims} {es : List Nat} {ns : List Nd} (h : ∀ x ∈ ns, x.ok d es) : ∀ q ∈ ns.flatMap nm, q < d.nk := fun q hq => by
  obtain ⟨x, hx, h2⟩ := List.mem_flatMap.mp hq
  have h3 := h x hx
  cases x with
  | s x => simp [nm] at h2
  | p x => simp [nm] at h2
  | e x =>
    cases x <;> simp [nm] at h2
    subst h2
    exact h3.2
theorem same_ok {d : Dims} {r : Rl} (h : r.ok d) : toldD (addAll [] r.look) (addAll [] (r.chg d.tabs)) r.draws r.tells (addKs [] r.knobs) = .tup [.str "touches", .tup ((ordL r.lookL).map Plc.D), .tup ((ordL (r.chgL d.tabs)).map Plc.D), .bl (decide (("draw" : Str) ∈ r.nodes.map Nd.kind)), .bl (decide (("tell" : Str) ∈ r.nodes.map Nd.kind)), .tup ((sortI ((r.knobsL d.nk).map fun (n : Nat) => (n : Int))).map .int)] := by
  have hs := rl_sz h
  have e1 : ordL (addAll [] r.look) = ordL r.lookL := ordL_ext fun p => by
    rw [addAll_mem]
    unfold Rl.look Rl.lookL Rl.nodes Rl.seen
    have hc : p ∈ condLook r.es r.cond ↔ p ∈ (condNodes r.cond).flatMap (nl r.es) ∨ p ∈ (condSeen r.cond).map (Pl.plc r.es) := by
      cases r.cond with
      | none => simp [condLook, condNodes, condSeen]
      | some e => exact ex_look _ _ e
    have hb := body_look r.es p r.body
    simp only [List.flatMap_append, List.map_append, List.mem_append, hc, hb, List.not_mem_nil, false_or]
    constructor <;> (intro h; rcases h with (h | h | h) | h | h <;> simp [h])
  have e2 : ordL (addAll [] (r.chg d.tabs)) = ordL (r.chgL d.tabs) := ordL_ext fun p => by
    rw [addAll_mem]
    unfold Rl.chg Rl.chgL Rl.nodes
    have hc : (condNodes r.cond).flatMap nt = [] ∧ (condNodes r.cond).flatMap (nc r.es d.tabs) = [] := by
      cases r.cond with
      | none => simp [condNodes]
      | some e => exact ⟨ex_nt e, ex_nc _ _ e⟩
    have hb := body_chg r.es d.tabs p r.body
    simp only [List.flatMap_append, hc.1, hc.2, List.nil_append, List.mem_append, hb, List.not_mem_nil, false_or]
  have e3 : r.draws = decide (("draw" : Str) ∈ r.nodes.map Nd.kind) := by
    rw [Bool.eq_iff_iff, decide_eq_true_iff]
    unfold Rl.draws Rl.nodes
    rw [List.map_append, List.mem_append, body_draws, Bool.or_eq_true]
    cases r.cond with
    | none => simp [condDraws, condNodes]
    | some e => rw [condNodes, ex_draws, condDraws]
  have e4 : r.tells = decide (("tell" : Str) ∈ r.nodes.map Nd.kind) := by
    rw [Bool.eq_iff_iff, decide_eq_true_iff]
    unfold Rl.tells Rl.nodes
    rw [List.map_append, List.mem_append, body_tells]
    cases r.cond with
    | none => simp [condNodes]
    | some e =>
      have := ex_tells e
      rw [condNodes]
      exact ⟨.inr, fun z => z.resolve_left this⟩
  have e5 : knI (addKs [] r.knobs) = sortI ((r.knobsL d.nk).map fun (n : Nat) => (n : Int)) := by
    refine sortI_perm (List.Perm.map _ ?_)
    refine (List.perm_ext_iff_of_nodup (addKs_nodup List.nodup_nil) (List.Pairwise.sublist List.filter_sublist List.nodup_range)).mpr fun q => ?_
    have hk := nm_kb hs.nd
    rw [addKs_mem]
    unfold Rl.knobs
    rw [List.mem_filter, List.mem_range, decide_eq_true_iff]
    have m : q ∈ condKnobs r.cond ++ bodyKnobs r.body ↔ q ∈ r.nodes.flatMap nm := by
      unfold Rl.nodes
      rw [List.flatMap_append, List.mem_append, List.mem_append, body_knobs]
      cases r.cond with
      | none => simp [condKnobs, condNodes]
      | some e => rw [condKnobs, condNodes, ex_knobs]
    rw [m]
    exact ⟨fun z => ⟨hk q (z.resolve_left (by simp)), z.resolve_left (by simp)⟩, fun z => .inr z.2⟩
  unfold toldD
  rw [e1, e2, e3, e4, e5]
end
end PMl

set_option Elab.async false
set_option linter.all false
set_option maxRecDepth 100000
set_option maxHeartbeats 2000000
/-! the plain law of k95, 14: the same, alike, apart. -/
namespace PMl
open PySem PM L2
mutual
def sm : D → Bool
  | .tup xs => decide (xs.length ≤ 12000000) && smAll xs
  | _ => true
def smAll : List D → Bool
  | [] => true
  | x :: xs => sm x && smAll xs
end
theorem smAll_iff {xs : List D} : smAll xs = true ↔ ∀ x ∈ xs, sm x = true := by
  induction xs with
  | nil => simp [smAll]
  | cons x xs ih => simp [smAll, ih]
theorem depAll_mem {x : D} : ∀ {xs : List D}, x ∈ xs → depD x ≤ depAll xs
  | y :: ys, h => by
    rcases List.mem_cons.mp h with e | e
    · subst e; simp [depAll]; omega
    · have := depAll_mem e; simp [depAll]; omega
section
open Classical
theorem any_false : ∀ n : Nat, inSeq (.bl false) (List.replicate n (.bl true)) = some false := by
  intro n
  unfold inSeq
  rw [if_pos]
  · congr 1
    rw [List.any_eq_false]
    intro x hx
    rw [List.eq_of_mem_replicate hx]
    simp [eqF]
  · simp [flatD]
theorem same_refl : ∀ (n : Nat) (d : D) (st : Sto), cl d = true → depD d ≤ n → sm d = true → m__law_same n [d, d] st = .ok (.bl true) st := by
  intro n
  induction n with
  | zero =>
    intro d st _ h _
    cases d <;> simp [depD] at h
  | succ n ih =>
    intro d st hc hd hs
    show mDef 3 (b__law_same (m__law_same n)) _ _ = _
    refine def_rt (ρ0 := [some d, some d, none]) rfl ?_ rfl
    unfold b__law_same
    cases d with
    | tup xs =>
      refine sSeq_rt (sIf_true (st' := st) (by simp) (sRet_ok ?_))
      simp only [cl] at hc
      simp only [depD] at hd
      simp only [sm, Bool.and_eq_true, decide_eq_true_eq] at hs
      have hl : lenD (.tup xs) st = .ok (.int (xs.length : Int)) st := rfl
      have hit : cRng1 (cB1 lenD (cVar 0)) [some (.tup xs), some (.tup xs), none] st = .ok ⟨fun _ => True, rngD 0 xs.length⟩ st := cRng1_ok (by simp [hl]) (by omega)
      have hc2 : cComp (cRng1 (cB1 lenD (cVar 0))) (.one 2) tYesD (cCall (m__law_same n) [(cOp2 getD (cVar 0) (cVar 2)), (cOp2 getD (cVar 1) (cVar 2))]) [2] [some (.tup xs), some (.tup xs), none] st = .ok (List.replicate xs.length (.bl true)) st := by
        rw [cComp_ap, hit, R.bind_ok, if_pos (by show (rngD 0 xs.length).length ≤ sizeLine; rw [rngD_len]; exact Nat.le_trans (by omega) sz16)]
        have := compGo_pure (chk := fun _ => True) (t := .one 2) (tt := tYesD) (te := cCall (m__law_same n) [(cOp2 getD (cVar 0) (cVar 2)), (cOp2 getD (cVar 1) (cVar 2))]) (ρ := wipeD [some (.tup xs), some (.tup xs), none] [2]) (st := st) (fun _ => true) (fun _ => D.bl true) trivial (rngD 0 xs.length) (fun x hx => by
          rw [rngD_nat] at hx
          obtain ⟨k, hk, rfl⟩ := List.mem_map.mp hx
          have hk := List.mem_range.mp hk
          refine ⟨_, rfl, rfl, fun _ => ?_⟩
          have hx := List.getElem?_eq_getElem hk
          have ha := atD_nat st hx
          have hm := List.getElem_mem hk
          have hi := ih xs[k] st (clAll_iff.mp hc _ hm) (by have := depAll_mem hm; omega) (smAll_iff.mp hs.2 _ hm)
          simp [wipeD, ha, hi])
        rw [this, List.filter_eq_self.mpr (fun _ _ => rfl)]
        rw [List.map_const', rngD_len]
      exact cAnd_true (st1 := st) (by simp) (cAnd_true (st1 := st) (by simp [hl]) (cInL_ok (cC_ap _ _ _) hc2 (any_false _)))
    | int i =>
      refine sSeq_nx (sIf_false (st' := st) (by simp) rfl) ?_
      refine sSeq_nx (sIf_false (st' := st) (by simp [isND]) rfl) ?_
      refine sSeq_nx (sIf_false (st' := st) (by simp) rfl) ?_
      simp
    | str i =>
      refine sSeq_nx (sIf_false (st' := st) (by simp) rfl) ?_
      refine sSeq_nx (sIf_false (st' := st) (by simp [isND]) rfl) ?_
      exact sSeq_rt (sIf_true (st' := st) (by simp) (sRet_ok (by simp)))
    | non =>
      refine sSeq_nx (sIf_false (st' := st) (by simp) rfl) ?_
      exact sSeq_rt (sIf_true (st' := st) (by simp [isND]) (sRet_ok (by simp [isND])))
    | bl b => simp [cl] at hc
    | con b => simp [cl] at hc
    | loc b => simp [cl] at hc
/-! the answers -/
def ansD (L C : List Plc) (d t : Bool) (K : List Int) : D := .tup [.str "touches", .tup (L.map Plc.D), .tup (C.map Plc.D), .bl d, .bl t, .tup (K.map .int)]
theorem cl_ints : ∀ K : List Int, clAll (K.map D.int) = true := fun K => clAll_map fun _ => rfl
theorem sm_plcs (l : List Plc) (h : l.length ≤ 12000000) : sm (.tup (l.map Plc.D)) = true := by
  simp only [sm, Bool.and_eq_true, decide_eq_true_eq, List.length_map]
  exact ⟨h, smAll_iff.mpr fun x hx => by
    obtain ⟨p, _, rfl⟩ := List.mem_map.mp hx
    cases p <;> rfl⟩
theorem sm_ints (l : List Int) (h : l.length ≤ 12000000) : sm (.tup (l.map .int)) = true := by
  simp only [sm, Bool.and_eq_true, decide_eq_true_eq, List.length_map]
  exact ⟨h, smAll_iff.mpr fun x hx => by
    obtain ⟨p, _, rfl⟩ := List.mem_map.mp hx
    rfl⟩
theorem dep_plcs (l : List Plc) : depAll (l.map Plc.D) ≤ 2 := by
  induction l with
  | nil => simp [depAll]
  | cons p r ih => cases p <;> simp [depAll, Plc.D, depD] <;> omega
theorem dep_ints (l : List Int) : depAll (l.map .int) ≤ 1 := by
  induction l with
  | nil => simp [depAll]
  | cons p r ih => simp [depAll, depD]; omega
theorem lst_ne {x y : Str} (hx : cl (.str x) = true) (hy : cl (.str y) = true) (st : Sto) : neD (.loc st.length) (.loc (st.length + 1)) (st ++ [.lst [.str x, .str y], .lst [.str x, .str y]]) = .ok (.bl false) (st ++ [.lst [.str x, .str y], .lst [.str x, .str y]]) := by
  have g0 : (st ++ [O.lst [.str x, .str y], .lst [.str x, .str y]])[st.length]? = _ := get_at0
  have g1 : (st ++ [O.lst [.str x, .str y], .lst [.str x, .str y]])[st.length + 1]? = _ := get_atk (k := 0)
  have hs : SeqAt.shaped (.list [.str x, .str y]) = true := by
    simp only [cl] at hx hy
    show (PyData.canLay0 (.list [.str x, .str y]) && decide (PyData.depth (.list [.str x, .str y]) ≤ 64)) = true
    have e : PyData.canLay0 (.list [.str x, .str y]) = true := by
      show (PyData.canLay0 (.str x) && (PyData.canLay0 (.str y) && true)) = true
      rw [hx, hy]; rfl
    rw [e]; rfl
  have he : PyData.eqv (.list [.str x, .str y]) (.list [.str x, .str y]) = true := by simp [PyData.eqv, PyData.eqvAll]
  have p0 : pdS (st ++ [O.lst [.str x, .str y], .lst [.str x, .str y]]) (.loc st.length) = some (.list [.str x, .str y]) := by simp only [pdS, g0]; rfl
  have p1 : pdS (st ++ [O.lst [.str x, .str y], .lst [.str x, .str y]]) (.loc (st.length + 1)) = some (.list [.str x, .str y]) := by simp only [pdS, g1]; rfl
  unfold neD
  have : eqO (.loc st.length) (.loc (st.length + 1)) (st ++ [O.lst [.str x, .str y], .lst [.str x, .str y]]) = some true := by
    unfold eqO
    rw [if_neg (by simp [scalD]), p0, p1]
    dsimp only
    rw [if_pos ⟨hs, hs⟩, he]
  rw [this]; rfl
theorem cl_tf (a : Bool) : cl (.str (if a then "True" else "False")) = true := by cases a <;> decide +kernel
theorem repr_ne (a b : Bool) (st : Sto) : neD (.loc st.length) (.loc (st.length + 1)) (st ++ [.lst [.str (if a then "True" else "False"), .str (if b then "True" else "False")], .lst [.str (if a then "True" else "False"), .str (if b then "True" else "False")]]) = .ok (.bl false) (st ++ [.lst [.str (if a then "True" else "False"), .str (if b then "True" else "False")], .lst [.str (if a then "True" else "False"), .str (if b then "True" else "False")]]) := lst_ne (cl_tf a) (cl_tf b) st
theorem alike_ok {L C : List Plc} {d t : Bool} {K : List Int} (st : Sto) (h1 : L.length ≤ 12000000) (h2 : C.length ≤ 12000000) (h3 : K.length ≤ 12000000) : m__law_alike [ansD L C d t K, ansD L C d t K] st = .ok (.bl true) st := by
  refine def_pure (ρ0 := [some (ansD L C d t K), some (ansD L C d t K)]) (g := [.lst [.str (if d then "True" else "False"), .str (if t then "True" else "False")], .lst [.str (if d then "True" else "False"), .str (if t then "True" else "False")]]) rfl ?_ rfl
  have hne := repr_ne d t st
  have hr : ∀ (b : Bool) (s : Sto), reprD (.bl b) s = .ok (.str (if b then "True" else "False")) s := fun _ _ => rfl
  have hl : ∀ s, lenD (ansD L C d t K) s = .ok (.int 6) s := fun _ => rfl
  have g3 : ∀ s, getD (ansD L C d t K) (.int 3) s = .ok (.bl d) s := fun s => by simp [ansD]
  have g4 : ∀ s, getD (ansD L C d t K) (.int 4) s = .ok (.bl t) s := fun s => by simp [ansD]
  have s1 : ∀ s, sliceD (ansD L C d t K) none (some 3) s = .ok (.tup [.str "touches", .tup (L.map Plc.D), .tup (C.map Plc.D)]) s := fun s => rfl
  have s2 : ∀ s, sliceD (ansD L C d t K) (some 5) none s = .ok (.tup [.tup (K.map .int)]) s := fun s => rfl
  have sr := same_refl 4 (.tup [.str "touches", .tup (L.map Plc.D), .tup (C.map Plc.D), .tup (K.map .int)]) (st ++ [.lst [.str (if d then "True" else "False"), .str (if t then "True" else "False")], .lst [.str (if d then "True" else "False"), .str (if t then "True" else "False")]])
    (by
      have q : cl (.str "touches") = true := by decide +kernel
      simp only [cl, clAll, clP, cl_ints, Bool.and_true, Bool.true_and] at q ⊢
      exact q)
    (by
      have a1 := dep_plcs L; have a2 := dep_plcs C; have a3 := dep_ints K
      simp only [depD, depAll]; omega)
    (by
      show (decide (4 ≤ 12000000) && (true && (sm (.tup (L.map Plc.D)) && (sm (.tup (C.map Plc.D)) && (sm (.tup (K.map .int)) && true))))) = true
      rw [sm_plcs L h1, sm_plcs C h2, sm_ints K h3]; rfl)
  unfold b__law_alike
  have htup : ∀ s, isiD .tuple (ansD L C d t K) s = .ok (.bl true) s := fun _ => rfl
  refine sSeq_nx (st' := st ++ [.lst [.str (if d then "True" else "False"), .str (if t then "True" else "False")], .lst [.str (if d then "True" else "False"), .str (if t then "True" else "False")]]) (ρ' := [some (ansD L C d t K), some (ansD L C d t K)]) (sIf_false ?_ rfl) ?_
  · simp only [tOrD_ap, tNotD_ap, cTru_ap, cB1_ap, cVar_ap, List.getElem?_cons_succ, List.getElem?_cons_zero, R.bind_ok, htup, truD_bl, Bool.not_true, cTst_ap, cOp2_ap, hl, cC_ap, neD_int, asB_ok, decide_true, cNew_ap, cLst_ap, cArgs_cons, cArgs_nil, g3, g4, hr]
    have e : (st ++ [O.lst [.str (if d then "True" else "False"), .str (if t then "True" else "False")]]).length = st.length + 1 := by simp
    rw [e]
    have e2 : (st ++ [O.lst [.str (if d then "True" else "False"), .str (if t then "True" else "False")]]) ++ [O.lst [.str (if d then "True" else "False"), .str (if t then "True" else "False")]] = st ++ [.lst [.str (if d then "True" else "False"), .str (if t then "True" else "False")], .lst [.str (if d then "True" else "False"), .str (if t then "True" else "False")]] := by simp
    rw [e2, hne]
    rfl
  · refine sRet_ok ?_
    simp only [cCall_ap, cArgs_cons, cArgs_nil, cOp2_ap, cSlice_ap, cVar_ap, List.getElem?_cons_succ, List.getElem?_cons_zero, R.bind_ok, cNoPart_ap, cPart_ap, cC_ap, s1, s2]
    have ad : ∀ s, addD (.tup [.str "touches", .tup (L.map Plc.D), .tup (C.map Plc.D)]) (.tup [.tup (K.map .int)]) s = .ok (.tup [.str "touches", .tup (L.map Plc.D), .tup (C.map Plc.D), .tup (K.map .int)]) s := fun s => by
      simp only [addD]
      rw [if_pos (by show 4 ≤ sizeLine; decide)]
      rfl
    simp only [ad, R.bind_ok]
    exact sr
theorem meet_ok (A B : List Plc) (st : Sto) (h : A.length ≤ 12000000) : m_meet [.tup (A.map Plc.D), .tup (B.map Plc.D)] st = .ok (.bl (decide (∃ p ∈ A, p ∈ B))) st := by
  refine def_rt (ρ0 := [some (.tup (A.map Plc.D)), some (.tup (B.map Plc.D)), none]) rfl ?_ rfl
  have hit : cItr (cVar 0) [some (.tup (A.map Plc.D)), some (.tup (B.map Plc.D)), none] st = .ok ⟨fun _ => True, A.map Plc.D⟩ st := cItr_tup (by simp)
  have hin : ∀ p : Plc, inD p.D (.tup (B.map Plc.D)) st = .ok (.bl (decide (p ∈ B))) st := fun p => by
    rw [inD_tup (cl_plc p) (dep_plc p) (clP B)]
    simp only [mem_plc]
  have hc := comp_map (toD := Plc.D) (ρ := wipeD [some (.tup (A.map Plc.D)), some (.tup (B.map Plc.D)), none] [2]) (i := 2) (te := cOp2 inD (cVar 2) (cVar 1)) (t := tYesD) (s := st) (fun _ => true) (fun p => .bl (decide (p ∈ B))) (fun _ => rfl) (fun p _ => by simp [wipeD, hin]) (chk := fun _ => True) trivial A
  rw [List.filter_eq_self.mpr (fun _ _ => rfl)] at hc
  unfold b_meet
  refine sRet_ok ?_
  rw [cS1_ap, cComp_ap, hit, R.bind_ok, if_pos (by show (A.map Plc.D).length ≤ sizeLine; rw [List.length_map]; exact Nat.le_trans (by omega) sz16), hc, R.bind_ok]
  unfold anyS
  have hb : ∀ l : List Plc, boolsD (l.map fun p => D.bl (decide (p ∈ B))) = some (l.map fun p => decide (p ∈ B)) := fun l => by
    induction l with
    | nil => rfl
    | cons p r ih => rw [List.map_cons, boolsD, ih]; rfl
  rw [hb]
  dsimp only
  congr 2
  rw [Bool.eq_iff_iff, List.any_eq_true, decide_eq_true_iff]
  constructor
  · rintro ⟨x, hx, e⟩
    obtain ⟨p, hp, rfl⟩ := List.mem_map.mp hx
    exact ⟨p, hp, by simpa using e⟩
  · rintro ⟨p, hp, e⟩
    exact ⟨true, List.mem_map.mpr ⟨p, hp, by simp [e]⟩, rfl⟩
/-- what an answer holds -/
structure Ans where
  (L C : List Plc) (d t : Bool) (K : List Int)
def Ans.D (a : Ans) : D := ansD a.L a.C a.d a.t a.K
def Ans.ok (a : Ans) : Prop := a.L.length ≤ 2000000 ∧ a.C.length ≤ 2000000 ∧ a.K.length ≤ 2000000
def apB (a b : Ans) : Bool := !(decide (∃ p ∈ a.C, p ∈ b.L ++ b.C) || decide (∃ p ∈ b.C, p ∈ a.L)) && !((a.d && b.d) || ((a.t && b.t) || (!decide (a.K = []) && !decide (b.K = []))))
theorem apB_comm (a b : Ans) : apB a b = apB b a := by
  have e : (decide (∃ p ∈ a.C, p ∈ b.L ++ b.C) || decide (∃ p ∈ b.C, p ∈ a.L)) = (decide (∃ p ∈ b.C, p ∈ a.L ++ a.C) || decide (∃ p ∈ a.C, p ∈ b.L)) := by
    rw [Bool.eq_iff_iff]
    simp only [Bool.or_eq_true, decide_eq_true_iff, List.mem_append]
    constructor
    · rintro (⟨p, h1, h2 | h2⟩ | ⟨p, h1, h2⟩)
      · exact .inr ⟨p, h1, h2⟩
      · exact .inl ⟨p, h2, .inr h1⟩
      · exact .inl ⟨p, h1, .inl h2⟩
    · rintro (⟨p, h1, h2 | h2⟩ | ⟨p, h1, h2⟩)
      · exact .inr ⟨p, h1, h2⟩
      · exact .inl ⟨p, h2, .inr h1⟩
      · exact .inl ⟨p, h1, .inl h2⟩
  unfold apB
  rw [e, Bool.and_comm a.d, Bool.and_comm a.t, Bool.and_comm (!decide (a.K = []))]
theorem neK (K : List Int) (st : Sto) : neD (.tup (K.map .int)) (.tup []) st = .ok (.bl (!decide (K = []))) st := by
  rw [neD_cl (by simp only [cl]; exact cl_ints K) rfl (by have := dep_ints K; simp only [depD]; omega) (by simp [depD, depAll])]
  simp
theorem eqK (K : List Int) (st : Sto) : eqD (.tup (K.map .int)) (.tup []) st = .ok (.bl (decide (K = []))) st := by
  rw [eqD_cl (by simp only [cl]; exact cl_ints K) rfl (by have := dep_ints K; simp only [depD]; omega) (by simp [depD, depAll])]
  simp
theorem addP (A B : List Plc) (st : Sto) (h : A.length + B.length ≤ 16000000) : addD (.tup (A.map Plc.D)) (.tup (B.map Plc.D)) st = .ok (.tup ((A ++ B).map Plc.D)) st := by
  simp only [addD]
  rw [if_pos (by simp only [List.length_map]; exact Nat.le_trans h sz16), List.map_append]
theorem apart_ok {w : D} {i j : Nat} {a b : Ans} (st : Sto) (ha : m_touches [w, .int (i : Int)] st = .ok a.D st) (hb : m_touches [w, .int (j : Int)] st = .ok b.D st) (oa : a.ok) (ob : b.ok) : m_apart [w, .int (i : Int), .int (j : Int)] st = .ok (.bl (apB a b)) st := by
  refine def_rt (ρ0 := [some w, some (.int (i : Int)), some (.int (j : Int)), none, none, none, none, none, none, none, none, none, none, none]) rfl ?_ rfl
  have m1 := meet_ok a.C (b.L ++ b.C) st (by have := oa.2.1; omega)
  have m2 := meet_ok b.C a.L st (by have := ob.2.1; omega)
  have ad := addP b.L b.C st (by have := ob.1; have := ob.2.1; omega)
  unfold b_apart
  refine sSeq_nx (ρ' := [some w, some (.int (i : Int)), some (.int (j : Int)), some (.str "touches"), some (.tup (a.L.map Plc.D)), some (.tup (a.C.map Plc.D)), some (.bl a.d), some (.bl a.t), some (.tup (a.K.map .int)), none, none, none, none, none]) (st' := st) (by simp [ha, Ans.D, ansD, gT, gsCons, gN, gsNil]) ?_
  refine sSeq_nx (ρ' := [some w, some (.int (i : Int)), some (.int (j : Int)), some (.str "touches"), some (.tup (a.L.map Plc.D)), some (.tup (a.C.map Plc.D)), some (.bl a.d), some (.bl a.t), some (.tup (a.K.map .int)), some (.tup (b.L.map Plc.D)), some (.tup (b.C.map Plc.D)), some (.bl b.d), some (.bl b.t), some (.tup (b.K.map .int))]) (st' := st) (by simp [hb, Ans.D, ansD, gT, gsCons, gN, gsNil]) ?_
  have hx : ∀ A B : List Plc, decide (∃ p ∈ A, p ∈ B) = true ∨ decide (∃ p ∈ A, p ∈ B) = false := fun A B => by cases decide (∃ p ∈ A, p ∈ B) <;> simp
  generalize q1 : decide (∃ p ∈ a.C, p ∈ b.L ++ b.C) = b1 at m1
  generalize q2 : decide (∃ p ∈ b.C, p ∈ a.L) = b2 at m2
  have hap : apB a b = (!(b1 || b2) && !((a.d && b.d) || ((a.t && b.t) || (!decide (a.K = []) && !decide (b.K = []))))) := by unfold apB; rw [q1, q2]
  rw [hap]
  cases b1 with
  | true => exact sSeq_rt (sIf_true (st' := st) (by simp [ad, m1, -List.map_append]) (sRet_ok (by simp)))
  | false =>
    cases b2 with
    | true => exact sSeq_rt (sIf_true (st' := st) (by simp [ad, m1, m2, -List.map_append]) (sRet_ok (by simp)))
    | false =>
      refine sSeq_nx (sIf_false (st' := st) (by simp [ad, m1, m2, -List.map_append]) rfl) (sRet_ok ?_)
      have k1 := neK a.K st
      have k2 := neK b.K st
      generalize decide (a.K = []) = ka at k1
      generalize decide (b.K = []) = kb at k2
      generalize a.d = ad; generalize b.d = bd; generalize a.t = at'; generalize b.t = bt
      cases ad <;> cases bd <;> cases at' <;> cases bt <;> cases ka <;> cases kb <;> simp [k1, k2]
end
end PMl

set_option Elab.async false
set_option linter.all false
set_option maxRecDepth 100000
set_option maxHeartbeats 2000000
/-! the plain law of k95, 15: _law_apart. -/
namespace PMl
open PySem PM L2
section
open Classical
theorem lapart_ok {w : D} {i j : Nat} {a b : Ans} (st : Sto) (ha : m__law_touches [w, .int (i : Int)] st = .ok a.D st) (hb : m__law_touches [w, .int (j : Int)] st = .ok b.D st) (oa : a.ok) (ob : b.ok) : m__law_apart [w, .int (i : Int), .int (j : Int)] st = .ok (.bl (apB a b)) st := by
  have ad := addP b.L b.C st (by have := ob.1; have := ob.2.1; omega)
  have hin : ∀ (B : List Plc) (p : Plc), inD p.D (.tup (B.map Plc.D)) st = .ok (.bl (decide (p ∈ B))) st := fun B p => by
    rw [inD_tup (cl_plc p) (dep_plc p) (clP B)]
    simp only [mem_plc]
  have g1 : ∀ a : Ans, getD a.D (.int 1) st = .ok (.tup (a.L.map Plc.D)) st := fun a => by simp [Ans.D, ansD]
  have g2 : ∀ a : Ans, getD a.D (.int 2) st = .ok (.tup (a.C.map Plc.D)) st := fun a => by simp [Ans.D, ansD]
  have c1 : cComp (cItr (cOp2 getD (cVar 3) (cC (.int 2)))) (.one 6) (cTst (cOp2 inD (cVar 6) (cOp2 addD (cOp2 getD (cVar 4) (cC (.int 1))) (cOp2 getD (cVar 4) (cC (.int 2)))))) (cVar 6) [6] [some w, some (.int (i : Int)), some (.int (j : Int)), some a.D, some b.D, none, none] st = .ok ((a.C.filter fun p => decide (p ∈ b.L ++ b.C)).map Plc.D) st := by
    have hit : cItr (cOp2 getD (cVar 3) (cC (.int 2))) [some w, some (.int (i : Int)), some (.int (j : Int)), some a.D, some b.D, none, none] st = .ok ⟨fun _ => True, a.C.map Plc.D⟩ st := cItr_tup (by simp [g2])
    rw [cComp_ap, hit, R.bind_ok, if_pos (by show (a.C.map Plc.D).length ≤ sizeLine; rw [List.length_map]; exact Nat.le_trans (by have := oa.2.1; omega) sz16)]
    exact comp_map (toD := Plc.D) _ _ (fun p => by simp [wipeD, g1, g2, ad, hin, -List.map_append, -List.mem_append]) (fun p _ => by simp [wipeD]) trivial a.C
  have c2 : cComp (cItr (cOp2 getD (cVar 4) (cC (.int 2)))) (.one 6) (cTst (cOp2 inD (cVar 6) (cOp2 getD (cVar 3) (cC (.int 1))))) (cVar 6) [6] [some w, some (.int (i : Int)), some (.int (j : Int)), some a.D, some b.D, none, none] st = .ok ((b.C.filter fun p => decide (p ∈ a.L)).map Plc.D) st := by
    have hit : cItr (cOp2 getD (cVar 4) (cC (.int 2))) [some w, some (.int (i : Int)), some (.int (j : Int)), some a.D, some b.D, none, none] st = .ok ⟨fun _ => True, b.C.map Plc.D⟩ st := cItr_tup (by simp [g2])
    rw [cComp_ap, hit, R.bind_ok, if_pos (by show (b.C.map Plc.D).length ≤ sizeLine; rw [List.length_map]; exact Nat.le_trans (by have := ob.2.1; omega) sz16)]
    exact comp_map (toD := Plc.D) _ _ (fun p => by simp [wipeD, g1, hin]) (fun p _ => by simp [wipeD]) trivial b.C
  have f1 := List.length_filter_le (fun p => decide (p ∈ b.L ++ b.C)) a.C
  have f2 := List.length_filter_le (fun p => decide (p ∈ a.L)) b.C
  have cat : catL ((a.C.filter fun p => decide (p ∈ b.L ++ b.C)).map Plc.D) ((b.C.filter fun p => decide (p ∈ a.L)).map Plc.D) st = .ok (((a.C.filter fun p => decide (p ∈ b.L ++ b.C)) ++ (b.C.filter fun p => decide (p ∈ a.L))).map Plc.D) st := by
    unfold catL
    rw [if_pos (by simp only [List.length_map]; exact Nat.le_trans (by have := oa.2.1; have := ob.2.1; omega) sz16), List.map_append]
  have q1 : (decide (∃ p ∈ a.C, p ∈ b.L ++ b.C) || decide (∃ p ∈ b.C, p ∈ a.L)) = decide (0 < ((a.C.filter fun p => decide (p ∈ b.L ++ b.C)) ++ (b.C.filter fun p => decide (p ∈ a.L))).length) := by
    rw [Bool.eq_iff_iff, Bool.or_eq_true, decide_eq_true_iff, decide_eq_true_iff, decide_eq_true_iff, List.length_pos_iff_exists_mem]
    simp only [List.mem_append, List.mem_filter, decide_eq_true_iff]
    constructor
    · rintro (⟨p, h1, h2⟩ | ⟨p, h1, h2⟩)
      · exact ⟨p, .inl ⟨h1, h2⟩⟩
      · exact ⟨p, .inr ⟨h1, h2⟩⟩
    · rintro ⟨p, ⟨h1, h2⟩ | ⟨h1, h2⟩⟩
      · exact .inl ⟨p, h1, h2⟩
      · exact .inr ⟨p, h1, h2⟩
  generalize hsh : ((a.C.filter fun p => decide (p ∈ b.L ++ b.C)) ++ (b.C.filter fun p => decide (p ∈ a.L))) = sh at cat q1
  have hap : apB a b = (!decide (0 < sh.length) && !((a.d && b.d) || ((a.t && b.t) || (!decide (a.K = []) && !decide (b.K = []))))) := by unfold apB; rw [q1]
  have hlen : lenD (.loc st.length) (st ++ [.lst (sh.map Plc.D)]) = .ok (.int (sh.length : Int)) (st ++ [.lst (sh.map Plc.D)]) := by rw [lenD_lst get_new]; simp
  have hgt : gtD (.int (sh.length : Int)) (.int 0) (st ++ [.lst (sh.map Plc.D)]) = .ok (.bl (decide (0 < sh.length))) (st ++ [.lst (sh.map Plc.D)]) := by
    show R.ok (D.bl (decide ((0 : Int) < sh.length))) _ = _
    have : decide ((0 : Int) < sh.length) = decide (0 < sh.length) := by
      rw [Bool.eq_iff_iff, decide_eq_true_iff, decide_eq_true_iff]; omega
    rw [this]
  refine def_pure (ρ0 := [some w, some (.int (i : Int)), some (.int (j : Int)), none, none, none, none]) (g := [.lst (sh.map Plc.D)]) rfl ?_ rfl
  unfold b__law_apart
  refine sSeq_nx (ρ' := [some w, some (.int (i : Int)), some (.int (j : Int)), some a.D, none, none, none]) (st' := st) (by simp [ha]) ?_
  refine sSeq_nx (ρ' := [some w, some (.int (i : Int)), some (.int (j : Int)), some a.D, some b.D, none, none]) (st' := st) (by simp [hb]) ?_
  refine sSeq_nx (ρ' := [some w, some (.int (i : Int)), some (.int (j : Int)), some a.D, some b.D, some (.loc st.length), none]) (st' := st ++ [.lst (sh.map Plc.D)]) (sSet_ok (d := .loc st.length) ?_ rfl) ?_
  · rw [cNew_ap, cCatL_ap, c1, R.bind_ok, c2, R.bind_ok, cat, R.bind_ok]
  have g3 : ∀ (a : Ans) (s : Sto), getD a.D (.int 3) s = .ok (.bl a.d) s := fun a s => by simp [Ans.D, ansD]
  have g4 : ∀ (a : Ans) (s : Sto), getD a.D (.int 4) s = .ok (.bl a.t) s := fun a s => by simp [Ans.D, ansD]
  have g5 : ∀ (a : Ans) (s : Sto), getD a.D (.int 5) s = .ok (.tup (a.K.map .int)) s := fun a s => by simp [Ans.D, ansD]
  have k1 := eqK a.K (st ++ [.lst (sh.map Plc.D)])
  have k2 := eqK b.K (st ++ [.lst (sh.map Plc.D)])
  rw [hap]
  have d3 := g3 a; have e3 := g3 b; have d4 := g4 a; have e4 := g4 b; have d5 := g5 a; have e5 := g5 b
  generalize decide (a.K = []) = ka at k1
  generalize decide (b.K = []) = kb at k2
  generalize decide (0 < sh.length) = z at hgt
  generalize a.d = xa at d3; generalize b.d = xb at e3; generalize a.t = ya at d4; generalize b.t = yb at e4
  cases z with
  | true => exact sSeq_rt (sIf_true (st' := st ++ [.lst (sh.map Plc.D)]) (by simp [hlen, hgt]) (sRet_ok (by simp)))
  | false =>
    by_cases h : ((xa && xb) || (ya && yb)) = true
    · refine sSeq_rt (sIf_true (st' := st ++ [.lst (sh.map Plc.D)]) ?_ (sRet_ok ?_))
      · cases xa <;> cases xb <;> cases ya <;> cases yb <;> simp at h <;> simp [hlen, hgt, d3, e3, d4, e4]
      · cases xa <;> cases xb <;> cases ya <;> cases yb <;> simp at h <;> simp
    · refine sSeq_nx (sIf_false (st' := st ++ [.lst (sh.map Plc.D)]) ?_ rfl) (sRet_ok ?_)
      · cases xa <;> cases xb <;> cases ya <;> cases yb <;> simp at h <;> simp [hlen, hgt, d3, e3, d4, e4]
      · cases xa <;> cases xb <;> cases ya <;> cases yb <;> simp at h <;> cases ka <;> cases kb <;> simp [d5, e5, k1, k2]
end
end PMl

set_option Elab.async false
set_option linter.all false
set_option maxRecDepth 100000
set_option maxHeartbeats 2000000
/-! the plain law of k95, 16: what is drawn: names, ranges, expressions. -/
namespace PMl
open PySem PM L2
theorem def_kp {n b : Nat} {s : S} {ds : List D} {ρ0 : PM.Env} {st st' : Sto} {d : D} (h0 : ds.map some ++ List.replicate (n - ds.length) none = ρ0) (h : s ρ0 st = .rt d st') (hb : Bg b st) (k : Kp b st st') : ∃ st2, mDef n s ds st = .ok d st2 ∧ Kp b st st2 := by
  obtain ⟨st2, e, k2⟩ := gcR_kp (d := d) hb k
  refine ⟨st2, ?_, k2⟩
  show gcR st (outR (s (ds.map some ++ List.replicate (n - ds.length) none) st)) = _
  rw [h0, h]
  exact e
theorem atD_in {xs : List D} {i : Int} (st : Sto) (h0 : 0 ≤ i) (h1 : i < xs.length) : ∃ x, x ∈ xs ∧ atD xs (.int i) st = .ok x st := by
  obtain ⟨n, rfl⟩ : ∃ n : Nat, i = n := ⟨i.toNat, by omega⟩
  have hn : n < xs.length := by omega
  exact ⟨xs[n], List.getElem_mem hn, atD_nat st (List.getElem?_eq_getElem hn)⟩
def wordList : List Str := ["x", "up", "ball", "a", "n1", "score", "z", "to", "b", "k9", "abcdefghijkl", "y2"]
theorem words_cl : ∀ s ∈ wordList, cl (.str s) = true := by decide +kernel
theorem names_ok (st : Sto) (s : Int) : ∃ (n : Nat) (g : Sto) (ss : List Str), m__law_names [.int s] st = .ok (.loc n) (st ++ g) ∧ (st ++ g)[n]? = some (.lst (ss.map D.str)) ∧ ss.length = 12 ∧ ∀ x ∈ ss, cl (.str x) = true := by
  have h0 : (st ++ [O.lst (wordList.map D.str)])[st.length]? = some (.lst (wordList.map D.str)) := get_new
  have hm : ∀ (i : Int) (t : Sto), modD (.int i) (.int 12) t = .ok (.int (i.fmod 12)) t := fun i t => modD_int t (by decide)
  obtain ⟨ys, st', e, ss, e1, e2, e3, e4⟩ := compGo_inv (chk := fun _ => True) (t := .one 2) (te := cOp2 getD (cVar 1) (cOp2 modD (cB1 intD (cOp2 addD (cVar 0) (cVar 2))) (cC (.int 12)))) (ρ := wipeD [some (.int s), some (.loc st.length), none] [2])
    (fun k acc t => ∃ ss : List Str, acc = ss.map D.str ∧ ss.length = k ∧ (∀ x ∈ ss, cl (.str x) = true) ∧ t = st ++ [O.lst (wordList.map D.str)]) (rngD 0 12) 0 [] (fun _ _ _ _ => trivial) (fun i x hx acc t ⟨ss, a1, a2, a3, a4⟩ => by
      subst a1 a4
      rw [rngD_nat, List.getElem?_map] at hx
      obtain ⟨k, hk, rfl⟩ := Option.map_eq_some_iff.mp hx
      obtain ⟨y, hy, ey⟩ := atD_in (xs := wordList.map D.str) (i := (s + k).fmod 12) (st ++ [O.lst (wordList.map D.str)]) (Int.fmod_nonneg_of_pos _ (by decide)) (by simpa [wordList] using Int.fmod_lt_of_pos (s + k) (show (0 : Int) < 12 by decide))
      obtain ⟨z, hz, rfl⟩ := List.mem_map.mp hy
      refine ⟨_, rfl, .str z, _, ?_, ss ++ [z], by simp, by simp; omega, fun q hq => ?_, rfl⟩
      · simp [wipeD, hm, getD_lst h0, ey]
      · rcases List.mem_append.mp hq with h | h
        · exact a3 q h
        · rw [List.mem_singleton] at h; subst h; exact words_cl _ hz) (st ++ [O.lst (wordList.map D.str)]) ⟨[], rfl, rfl, by simp, rfl⟩
  subst e4
  rw [List.nil_append] at e1
  subst e1
  refine ⟨st.length + 1, [.lst (wordList.map D.str), .lst (ss.map D.str)], ss, ?_, get_atk (k := 0), by rw [e2, rngD_len], e3⟩
  refine def_loc (ρ0 := [some (.int s), none, none]) rfl ?_ (by omega)
  unfold b__law_names
  refine sSeq_nx (ρ' := [some (.int s), some (.loc st.length), none]) (st' := st ++ [O.lst (wordList.map D.str)]) (by simp [wordList]) ?_
  have hit : cRng1 (cC (.int 12)) [some (.int s), some (.loc st.length), none] (st ++ [O.lst (wordList.map D.str)]) = .ok ⟨fun _ => True, rngD 0 12⟩ (st ++ [O.lst (wordList.map D.str)]) := cRng1_ok (n := 12) rfl (by decide)
  refine sRet_ok (d := .loc (st.length + 1)) ?_
  rw [cNew_ap, cComp_ap, hit, R.bind_ok, if_pos (by show (rngD 0 12).length ≤ sizeLine; rw [rngD_len]; exact Nat.le_trans (by decide) sz16), e, R.bind_ok]
  simp
theorem range_ok {b : Nat} {st : Sto} (hb : Bg b st) : ∃ (lo hi : Int) (st' : Sto), m__law_range [.loc b] st = .ok (.tup [.int lo, .int hi]) st' ∧ Kp b st st' := by
  let prs : List (Int × Int) := [(0, 1), (0, 9), (-3, 3), (5, 7), (-9, -2), (0, 0), (-2147483647, 2147483647), (-100, 100)]
  let prD : List D := prs.map fun p => .tup [.int p.1, .int p.2]
  have h0 : (st ++ [O.lst prD])[st.length]? = some (.lst prD) := get_new
  have b0 : Kp b st (st ++ [O.lst prD]) := Kp.app hb
  obtain ⟨v1, st1, e1, k1, p1, q1⟩ := draw_pos (many := 8) b0.bag (by decide) (by decide)
  have h1 : st1[st.length]? = some (.lst prD) := k1.eq _ _ h0 (by have := hb.lt; omega)
  obtain ⟨y, hy, ey⟩ := atD_in (xs := prD) (i := v1) st1 p1 (by simpa [prD, prs] using q1)
  obtain ⟨⟨lo, hi⟩, _, rfl⟩ := List.mem_map.mp hy
  obtain ⟨v2, st2, e2, k2, p2, q2⟩ := draw_pos (many := 8) k1.bag (by decide) (by decide)
  have kk := (b0.trans k1).trans k2
  by_cases hv : v2 = 0
  · subst hv
    obtain ⟨v3, st3, e3, k3, p3, q3⟩ := draw_pos (many := 2001) k2.bag (by decide) (by decide)
    obtain ⟨v4, st4, e4, k4, p4, q4⟩ := draw_pos (many := 3) k3.bag (by decide) (by decide)
    obtain ⟨z, hz, ez⟩ := atD_in (xs := [.int 3, .int 300, .int 2000000000]) (i := v4) st4 p4 (by simpa using q4)
    obtain ⟨m, hm, rfl⟩ : ∃ m : Int, (m = 3 ∨ m = 300 ∨ m = 2000000000) ∧ z = .int m := by
      simp at hz
      rcases hz with h | h | h <;> exact ⟨_, by simp, h⟩
    obtain ⟨v5, st5, e5, k5, p5, q5⟩ := draw_pos (many := m) k4.bag (by omega) (by omega)
    refine (fun q => let ⟨st6, e6, k6⟩ := def_kp (n := 4) (s := b__law_range) (ds := [.loc b]) (ρ0 := [some (.loc b), none, none, none]) (st := st) (st' := st5) (d := .tup [.int (v3 - 1000), .int (v3 - 1000 + v5)]) rfl q hb (((kk.trans k3).trans k4).trans k5); ⟨_, _, st6, e6, k6⟩) ?_
    unfold b__law_range
    refine sSeq_nx (ρ' := [some (.loc b), some (.loc st.length), none, none]) (st' := st ++ [O.lst prD]) (by simp [negD, prD, prs]) ?_
    refine sSeq_nx (ρ' := [some (.loc b), some (.loc st.length), some (.int lo), some (.int hi)]) (st' := st1) (by simp [e1, getD_lst h1, ey, gT, gsCons, gN, gsNil]) ?_
    refine sSeq_nx (ρ' := [some (.loc b), some (.loc st.length), some (.int (v3 - 1000)), some (.int (v3 - 1000 + v5))]) (st' := st5) (sIf_true (st' := st2) (by simp [e2]) ?_) (by simp)
    refine sSeq_nx (ρ' := [some (.loc b), some (.loc st.length), some (.int (v3 - 1000)), some (.int hi)]) (st' := st3) (by simp [e3]) ?_
    simp [e4, ez, e5]
  · refine (fun q => let ⟨st6, e6, k6⟩ := def_kp (n := 4) (s := b__law_range) (ds := [.loc b]) (ρ0 := [some (.loc b), none, none, none]) (st := st) (st' := st2) (d := .tup [.int lo, .int hi]) rfl q hb kk; ⟨_, _, st6, e6, k6⟩) ?_
    unfold b__law_range
    refine sSeq_nx (ρ' := [some (.loc b), some (.loc st.length), none, none]) (st' := st ++ [O.lst prD]) (by simp [negD, prD, prs]) ?_
    refine sSeq_nx (ρ' := [some (.loc b), some (.loc st.length), some (.int lo), some (.int hi)]) (st' := st1) (by simp [e1, getD_lst h1, ey, gT, gsCons, gN, gsNil]) ?_
    refine sSeq_nx (ρ' := [some (.loc b), some (.loc st.length), some (.int lo), some (.int hi)]) (st' := st2) (sIf_false (st' := st2) (by simp [e2, hv]) (by simp)) (by simp)
end PMl

set_option Elab.async false
set_option linter.all false
set_option maxRecDepth 100000
set_option maxHeartbeats 2000000
/-! the plain law of k95, 17: what is drawn: the declared part of a world. -/
namespace PMl
open PySem PM L2
/-- a draw: a value of the form P; the store goes on -/
def Drw (b : Nat) (st : Sto) (r : R D) (P : D → Prop) : Prop := ∃ v st', r = .ok v st' ∧ Kp b st st' ∧ P v
theorem drw_of {n b : Nat} {s : S} {ds : List D} {ρ0 : PM.Env} {st st' : Sto} {d : D} {P : D → Prop} (h0 : ds.map some ++ List.replicate (n - ds.length) none = ρ0) (hb : Bg b st) (k : Kp b st st') (p : P d) (h : s ρ0 st = .rt d st') : Drw b st (mDef n s ds st) P := by
  obtain ⟨st2, e, k2⟩ := def_kp h0 h hb k
  exact ⟨d, st2, e, k2, p⟩
theorem mem_rng {a : Int} {n : Nat} {x : D} (h : x ∈ rngD a n) : ∃ k : Int, x = .int k ∧ a ≤ k ∧ k < a + n := by
  obtain ⟨i, hi, rfl⟩ := List.mem_map.mp h
  have := List.mem_range.mp hi
  exact ⟨a + i, rfl, by omega, by omega⟩
theorem comp_drw {b i : Nat} {te : E} {ρ : PM.Env} {Q : D → Prop} {s0 : Sto} : ∀ (xs : List D) (st : Sto), Kp b s0 st → (∀ x ∈ xs, ∀ st, Kp b s0 st → Drw b st (te (ρ.set i (some x)) st) Q) →
    ∃ ys st', compGo (fun _ => True) (.one i) tYesD te ρ xs st = .ok ys st' ∧ Kp b s0 st' ∧ ys.length = xs.length ∧ ∀ y ∈ ys, Q y
  | [], st, k, _ => ⟨[], st, compGo_nil trivial, k, rfl, by simp⟩
  | x :: r, st, k, h => by
    obtain ⟨y, st1, e1, k1, q1⟩ := h x List.mem_cons_self st k
    obtain ⟨ys, st2, e2, k2, l2, q2⟩ := comp_drw (i := i) (te := te) (ρ := ρ) (Q := Q) r st1 (k.trans k1) fun z hz => h z (List.mem_cons_of_mem _ hz)
    refine ⟨y :: ys, st2, ?_, k2, by simp [l2], ?_⟩
    · rw [compGo_cons (ρ1 := ρ.set i (some x)) trivial rfl rfl e1, e2]; rfl
    · intro z hz
      rcases List.mem_cons.mp hz with h | h
      · subst h; exact q1
      · exact q2 z h
/-- a comprehension that draws -/
theorem ccomp_drw {b i : Nat} {it : EI} {te : E} {ρ : PM.Env} {Q : D → Prop} {xs : List D} {s0 st : Sto} (hi : it ρ s0 = .ok ⟨fun _ => True, xs⟩ st) (k : Kp b s0 st) (hz : xs.length ≤ 10000) (h : ∀ x ∈ xs, ∀ s, Kp b s0 s → Drw b s (te ((ρ.set i none).set i (some x)) s) Q) :
    ∃ ys st', cComp it (.one i) tYesD te [i] ρ s0 = .ok ys st' ∧ Kp b s0 st' ∧ ys.length = xs.length ∧ ∀ y ∈ ys, Q y := by
  obtain ⟨ys, st', e, r⟩ := comp_drw (i := i) (te := te) (ρ := ρ.set i none) (Q := Q) xs st k h
  exact ⟨ys, st', by rw [cComp_ap, hi, R.bind_ok, if_pos (Nat.le_trans hz (by decide))]; exact e, r⟩
theorem loop_app {b q i : Nat} {s0 : Sto} {o e : E} {ρ : PM.Env} {Q : D → Prop} (ho : ∀ x s, o (ρ.set i x) s = .ok (.loc q) s) (hq : q ≠ b) (hs : s0.length ≤ q) : ∀ (xs : List D) (st : Sto) (l : List D) (x : Option D), Kp b s0 st → st[q]? = some (.lst l) → l.length + xs.length ≤ 10000 →
    (∀ x ∈ xs, ∀ s, Kp b s0 s → Drw b s (e (ρ.set i (some x)) s) Q) → ∃ st' l' x', forGo (fun _ => True) (gN i) (sExp (cApp o e)) xs (ρ.set i x) st = .nx (ρ.set i x') st' ∧ Kp b s0 st' ∧ st'[q]? = some (.lst (l ++ l')) ∧ l'.length = xs.length ∧ ∀ y ∈ l', Q y
  | [], st, l, x, k, hl, _, _ => ⟨st, [], x, forGo_nil trivial, k, by simpa using hl, rfl, by simp⟩
  | y :: r, st, l, x, k, hl, hz, h => by
    simp only [List.length_cons] at hz
    obtain ⟨v, st1, e1, k1, q1⟩ := h y List.mem_cons_self st k
    have hl1 := k1.eq q _ hl hq
    have ha := appD_at (y := v) hl1 (by omega)
    obtain ⟨st2, l2, x2, e2, k2, g2, n2, q2⟩ := loop_app (o := o) (e := e) (ρ := ρ) (Q := Q) ho hq hs r (st1.set q (.lst (l ++ [v]))) (l ++ [v]) (some y) ((k.trans k1).new hs hq) (get_set_eq hl1) (by simp; omega) fun z hz => h z (List.mem_cons_of_mem _ hz)
    refine ⟨st2, v :: l2, x2, ?_, k2, by simpa using g2, by simp [n2], ?_⟩
    · rw [forGo_cons (ρ1 := ρ.set i (some y)) (ρ2 := ρ.set i (some y)) (st2 := st1.set q (.lst (l ++ [v]))) trivial (by simp [gN]) (.inl (sExp_ok (app_ok (ho _ _) hl e1 ha)))]
      exact e2
    · intro z hz
      rcases List.mem_cons.mp hz with h | h
      · subst h; exact q1
      · exact q2 z h
theorem pick2 (x y : Int) {l : Int} (hl : l = 0 ∨ l = 1) : ∃ m : Int, (m = x ∨ m = y) ∧ ∀ st, atD [.int x, .int y] (.int l) st = .ok (.int m) st := by
  rcases hl with rfl | rfl
  · exact ⟨x, .inl rfl, fun st => by simp⟩
  · exact ⟨y, .inr rfl, fun st => by simp⟩
/-- a name of the list of names -/
theorem name_at {n : Nat} {ss : List Str} {st : Sto} {k : Int} (h : st[n]? = some (.lst (ss.map D.str))) (hs : ss.length = 12) (hc : ∀ x ∈ ss, cl (.str x) = true) (h0 : 0 ≤ k) (h1 : k < 12) : ∃ x, cl (.str x) = true ∧ getD (.loc n) (.int k) st = .ok (.str x) st := by
  obtain ⟨y, hy, e⟩ := atD_in (xs := ss.map D.str) (i := k) st h0 (by simp [hs]; omega)
  obtain ⟨z, hz, rfl⟩ := List.mem_map.mp hy
  exact ⟨z, hc z hz, by rw [getD_lst h, e]⟩
theorem add3 (a b c : D) (st : Sto) : addD (.tup [a]) (.tup [b, c]) st = .ok (.tup [a, b, c]) st := by
  simp only [addD]
  rw [if_pos (by show 3 ≤ sizeLine; decide)]; rfl
theorem add4 (a b c d : D) (st : Sto) : addD (.tup [a, b, c]) (.tup [d]) st = .ok (.tup [a, b, c, d]) st := by
  simp only [addD]
  rw [if_pos (by show 4 ≤ sizeLine; decide)]; rfl
/-- a declared thing: a name and a range -/
def IsDecl (d : D) : Prop := ∃ (x : Str) (lo hi : Int), d = .tup [.str x, .int lo, .int hi]
def IsKnob (d : D) : Prop := ∃ (x : Str) (lo hi : Int) (s : Str), d = .tup [.str x, .int lo, .int hi, .str s]
def IsTab (m : Int) (d : D) : Prop := ∃ (x y z : D) (fs : List D), d = .tup [x, y, z, .tup fs] ∧ 1 ≤ fs.length ∧ (fs.length : Int) ≤ m
/-- (names[k],) + _law_range(bag) -/
theorem decl_ok {b n : Nat} {ss : List Str} {st : Sto} {k : Int} {ρ : PM.Env} {ke : E} (hb : Bg b st) (h : st[n]? = some (.lst (ss.map D.str))) (hs : ss.length = 12) (hc : ∀ x ∈ ss, cl (.str x) = true) (h0 : 0 ≤ k) (h1 : k < 12) (hr0 : ρ[0]? = some (some (.loc b))) (hr3 : ρ[3]? = some (some (.loc n))) (hk : ∀ s, ke ρ s = .ok (.int k) s) :
    Drw b st (cOp2 addD (cTup [(cOp2 getD (cVar 3) ke)]) (cCall m__law_range [(cVar 0)]) ρ st) IsDecl := by
  obtain ⟨x, _, e⟩ := name_at h hs hc h0 h1
  obtain ⟨lo, hi, st1, e1, k1⟩ := range_ok hb
  exact ⟨_, st1, by simp [hr0, hr3, hk, e, e1, add3], k1, x, lo, hi, rfl⟩
end PMl

set_option Elab.async false
set_option linter.all false
set_option maxRecDepth 100000
set_option maxHeartbeats 2000000
/-! the plain law of k95, 18: the declared part of a world (printed by mk_L18_k95.py). -/
namespace PMl
open PySem PM L2
/-- sizes of a drawn world -/
structure Dims.sm (d : Dims) : Prop where
  nk : 1 ≤ d.nk ∧ d.nk ≤ 8
  nv : d.nv ≤ 8
  nt : d.nt ≤ 8
  nf : d.tabs.length ≤ 6
  tab : ∀ n ∈ d.tabs, 1 ≤ n ∧ n ≤ 6
def DeclOk (d : Dims) (w : D) : Prop := ∃ (nmx : Str) (se : Int) (ks vs ts tl : List D), w = .tup [.str "world", .str nmx, .int se, .tup ks, .tup vs, .tup ts, .tup tl] ∧ ks.length = d.nk ∧ vs.length = d.nv ∧ tl.length = d.nt ∧ TabsAt ts d.tabs
def tabLen : D → Nat
  | .tup [_, _, _, .tup fs] => fs.length
  | _ => 0
theorem tabs_of {m : Int} (hm : m ≤ 6) {ts : List D} (h : ∀ t ∈ ts, IsTab m t) : TabsAt ts (ts.map tabLen) ∧ ∀ n ∈ ts.map tabLen, 1 ≤ n ∧ n ≤ 6 := by
  refine ⟨⟨by simp, fun i n hi => ?_⟩, fun n hn => ?_⟩
  · rw [List.getElem?_map] at hi
    obtain ⟨t, ht, e⟩ := Option.map_eq_some_iff.mp hi
    obtain ⟨x, y, z, fs, rfl, h1, h2⟩ := h t (List.mem_of_getElem? ht)
    have e : fs.length = n := e
    exact ⟨by omega, x, y, z, fs, ht, e⟩
  · obtain ⟨t, ht, rfl⟩ := List.mem_map.mp hn
    obtain ⟨x, y, z, fs, rfl, h1, h2⟩ := h t ht
    show 1 ≤ fs.length ∧ fs.length ≤ 6
    exact ⟨h1, by omega⟩
theorem nat_of {v : Int} (h : 0 ≤ v) : ∃ n : Nat, v = n := ⟨v.toNat, by omega⟩
theorem pick3 (x y z : D) {l : Int} (h0 : 0 ≤ l) (h1 : l < 3) : ∃ m : D, ∀ st, atD [x, y, z] (.int l) st = .ok m st := by
  have : l = 0 ∨ l = 1 ∨ l = 2 := by omega
  rcases this with rfl | rfl | rfl
  · exact ⟨x, fun st => by simp⟩
  · exact ⟨y, fun st => by simp⟩
  · exact ⟨z, fun st => by simp⟩
theorem cut_pre {xs : List D} {v : Int} (h0 : 0 ≤ v) (h1 : v ≤ xs.length) : cutD xs none (some v) = xs.take v.toNat := by
  obtain ⟨n, rfl⟩ := nat_of h0
  unfold cutD
  rw [HT.sIx_none, HT.sIx_nat]
  have : min n xs.length - 0 = n := by omega
  rw [this]
  simp
theorem declared_ok {b : Nat} {st : Sto} {lg : Int} (hb : Bg b st) (hl : lg = 0 ∨ lg = 1) : ∃ d : Dims, d.sm ∧ Drw b st (m__law_declared [.loc b, .int lg] st) (DeclOk d) := by
  obtain ⟨most, hmost, em⟩ := pick2 3 6 hl
  obtain ⟨v1, st1, e1, k1, p1, q1⟩ := draw_pos (many := 12) hb (by decide) (by decide)
  obtain ⟨n, g, ss, e2, hn, l12, hcl⟩ := names_ok st1 v1
  generalize hst2 : st1 ++ g = st2 at e2 hn
  have k2 : Kp b st st2 := hst2 ▸ k1.app'
  have hbn : b ≠ n := fun z => by
    subst z
    obtain ⟨x, y, z, c, hx⟩ := k2.bag
    rw [hx] at hn
    simp [bagO] at hn
    have := congrArg List.length hn
    simp at this; omega
  have hb2 := Bg.lt k2.bag
  -- knobs
  have k3 : Kp b st2 (st2 ++ [.lst []]) := Kp.app k2.bag
  obtain ⟨m1, hm1, em1⟩ := pick2 3 8 hl
  obtain ⟨v2, st3, e3, k3', p3, q3⟩ := draw_pos (many := m1) k3.bag (by omega) (by omega)
  have k3'' := k3.trans k3'
  have h3 : st3[st2.length]? = some (.lst []) := k3'.eq _ _ get_new (by omega)
  obtain ⟨n2, rfl⟩ := nat_of p3
  obtain ⟨st4, ks, x4, e4, k4, h4, l4, _⟩ := loop_app (b := b) (q := st2.length) (i := 5) (s0 := st2) (o := cVar 4) (e := (cOp2 addD (cOp2 addD (cTup [(cOp2 getD (cVar 3) (cVar 5))]) (cCall m__law_range [(cVar 0)])) (cTup [(cIxL (cLst [(cC (.str "held")), (cC (.str "struck"))]) (cCall m__law_draw [(cVar 0), (cC (.int 2))]))]))) (ρ := [some (.loc b), some (.int lg), some (.int most), some (.loc n), some (.loc st2.length), none, none, none, none, none, none, none, none, none]) (Q := IsKnob) (fun x s => by simp) (by omega) (Nat.le_refl _) (rngD 0 (1 + n2)) st3 [] none k3'' h3 (by rw [rngD_len]; simp; omega) (fun x hx s ks => by
    obtain ⟨k, rfl, r0, r1⟩ := mem_rng hx
    have hs := ks.eq n _ hn (Ne.symm hbn)
    obtain ⟨y, s1, f1, j1, x, lo, hi, rfl⟩ := decl_ok (n := n) (ρ := [some (.loc b), some (.int lg), some (.int most), some (.loc n), some (.loc st2.length), some (.int k), none, none, none, none, none, none, none, none]) (ke := cVar 5) ks.bag hs l12 hcl r0 (by omega) rfl rfl (fun s => by simp)
    obtain ⟨v, s2, f2, j2, u0, u1⟩ := draw_pos (many := 2) j1.bag (by decide) (by decide)
    have hv : v = 0 ∨ v = 1 := by omega
    obtain ⟨q, hq⟩ : ∃ q : Str, ∀ s, atD [.str "held", .str "struck"] (.int v) s = .ok (.str q) s := by
      rcases hv with rfl | rfl
      · exact ⟨"held", fun s => by simp⟩
      · exact ⟨"struck", fun s => by simp⟩
    refine ⟨.tup [.str x, .int lo, .int hi, .str q], s2, ?_, j1.trans j2, x, lo, hi, q, rfl⟩
    have f1' : cOp2 addD (cTup [(cOp2 getD (cVar 3) (cVar 5))]) (cCall m__law_range [(cVar 0)]) [some (.loc b), some (.int lg), some (.int most), some (.loc n), some (.loc st2.length), some (.int k), none, none, none, none, none, none, none, none] s = _ := f1
    show cOp2 addD _ _ [some (.loc b), some (.int lg), some (.int most), some (.loc n), some (.loc st2.length), some (.int k), none, none, none, none, none, none, none, none] s = _
    rw [cOp2_ap, f1', R.bind_ok]
    simp [f2, hq, add4])
  rw [List.nil_append] at h4
  rw [rngD_len] at l4
  -- values
  obtain ⟨m2, hm2, em2⟩ := pick2 4 9 hl
  obtain ⟨v3, st4', e5, k5, p5, q5⟩ := draw_pos (many := m2) k4.bag (by omega) (by omega)
  obtain ⟨n3, rfl⟩ := nat_of p5
  have hn4 := k4.eq n _ hn (Ne.symm hbn)
  obtain ⟨vs, st5, e6, k6, l6, _⟩ := ccomp_drw (b := b) (i := 5) (it := cRng1 (cCall m__law_draw [(cVar 0), (cIxL (cLst [(cC (.int 4)), (cC (.int 9))]) (cVar 1))])) (te := (cOp2 addD (cTup [(cOp2 getD (cVar 3) (cVar 5))]) (cCall m__law_range [(cVar 0)]))) (ρ := [some (.loc b), some (.int lg), some (.int most), some (.loc n), some (.loc st2.length), x4, none, none, none, none, none, none, none, none]) (Q := IsDecl) (xs := rngD 0 n3) (s0 := st4) (st := st4') (cRng1_ok (by simp [em2, e5]) (by omega)) k5 (by rw [rngD_len]; omega) (fun x hx s ks => by
    obtain ⟨k, rfl, r0, r1⟩ := mem_rng hx
    have hs := ks.eq n _ hn4 (Ne.symm hbn)
    exact decl_ok (n := n) (ke := cVar 5) ks.bag hs l12 hcl r0 (by omega) rfl rfl (fun s => by simp))
  rw [rngD_len] at l6
  have hn5 := k6.eq n _ hn4 (Ne.symm hbn)
  have hk5 : st5[st2.length]? = some (.lst ks) := k6.eq _ _ h4 (by omega)
  have hb5 := Bg.lt k6.bag
  -- tables
  have k7 : Kp b st5 (st5 ++ [.lst []]) := Kp.app k6.bag
  obtain ⟨v4, st6, e7, k8, p8, q8⟩ := draw_pos (many := most + 1) k7.bag (by omega) (by omega)
  have k8' := k7.trans k8
  have h6 : st6[st5.length]? = some (.lst []) := k8.eq _ _ get_new (by omega)
  obtain ⟨n4, rfl⟩ := nat_of p8
  obtain ⟨ρ7, st7, e8, y5, y8, y9, y10, hρ, k9, ts, h7, l7, hts⟩ := forGo_inv (chk := fun _ => True) (g := gN 5) (body := (sSeq (sSet 8 (cOp2 addD (cC (.int 1)) (cCall m__law_draw [(cVar 0), (cIxL (cLst [(cC (.int 4)), (cC (.int 12))]) (cVar 1))])))
  (sSeq (sSet 9 (cIxL (cLst [(cC (.int 0)), (cC (.int 0)), (cOp2 addD (cC (.int 1)) (cCall m__law_draw [(cVar 0), (cIxL (cLst [(cC (.int 2)), (cC (.int 8))]) (cVar 1))]))]) (cCall m__law_draw [(cVar 0), (cC (.int 3))])))
  (sSeq (sSet 10 (cS1 tupS (cComp (cRng1 (cOp2 addD (cC (.int 1)) (cCall m__law_draw [(cVar 0), (cVar 2)]))) (.one 13) tYesD (cOp2 addD (cTup [(cOp2 getD (cVar 3) (cOp2 addD (cVar 13) (cC (.int 1))))]) (cCall m__law_range [(cVar 0)])) [13])))
  (sExp (cApp (cVar 7) (cTup [(cOp2 getD (cVar 3) (cVar 5)), (cVar 8), (cVar 9), (cVar 10)])))))))
    (fun k ρ s => ∃ y5 y8 y9 y10, ρ = [some (.loc b), some (.int lg), some (.int most), some (.loc n), some (.loc st2.length), y5, some (.tup vs), some (.loc st5.length), y8, y9, y10, none, none, none] ∧ Kp b st5 s ∧ ∃ l, s[st5.length]? = some (.lst l) ∧ l.length = k ∧ ∀ t ∈ l, IsTab most t) (rngD 0 n4) 0 (fun _ _ _ _ => trivial) (fun i x hx ρ s ⟨y5, y8, y9, y10, hρ, ks, l, hl5, ll, hall⟩ => by
    subst hρ
    obtain ⟨k, rfl, r0, r1⟩ := mem_rng (List.mem_of_getElem? hx)
    have hs := ks.eq n _ hn5 (Ne.symm hbn)
    obtain ⟨ma, hma, ema⟩ := pick2 4 12 hl
    obtain ⟨va, sa, ea, ka, pa, qa⟩ := draw_pos (many := ma) ks.bag (by omega) (by omega)
    obtain ⟨mb, hmb, emb⟩ := pick2 2 8 hl
    obtain ⟨vb, sb, eb, kb, pb, qb⟩ := draw_pos (many := mb) ka.bag (by omega) (by omega)
    obtain ⟨vc, sc, ec, kc, pc, qc⟩ := draw_pos (many := 3) kb.bag (by decide) (by decide)
    obtain ⟨past, epast⟩ := pick3 (.int 0) (.int 0) (.int (1 + vb)) pc qc
    obtain ⟨vd, sd, ed, kd, pd', qd⟩ := draw_pos (many := most) kc.bag (by omega) (by omega)
    obtain ⟨nd, rfl⟩ := nat_of pd'
    have kcc := ((ks.trans ka).trans kb).trans kc
    have hnc := kcc.eq n _ hn5 (Ne.symm hbn)
    obtain ⟨fs, se, ee, ke, le, _⟩ := ccomp_drw (b := b) (i := 13) (it := (cRng1 (cOp2 addD (cC (.int 1)) (cCall m__law_draw [(cVar 0), (cVar 2)])))) (te := (cOp2 addD (cTup [(cOp2 getD (cVar 3) (cOp2 addD (cVar 13) (cC (.int 1))))]) (cCall m__law_range [(cVar 0)]))) (ρ := [some (.loc b), some (.int lg), some (.int most), some (.loc n), some (.loc st2.length), some (.int k), some (.tup vs), some (.loc st5.length), some (.int (1 + va)), some past, y10, none, none, none]) (Q := IsDecl) (xs := rngD 0 (1 + nd)) (s0 := sc) (st := sd) (cRng1_ok (by simp [ed]) (by omega)) kd (by rw [rngD_len]; omega) (fun x hx s ks => by
      obtain ⟨k, rfl, r0, r1⟩ := mem_rng hx
      have hs := ks.eq n _ hnc (Ne.symm hbn)
      exact decl_ok (n := n) (k := k + 1) (ke := cOp2 addD (cVar 13) (cC (.int 1))) ks.bag hs l12 hcl (by omega) (by omega) rfl rfl (fun s => by simp))
    rw [rngD_len] at le
    have kee := kcc.trans ke
    have hle : se[st5.length]? = some (.lst l) := (((ka.trans kb).trans kc).trans ke).eq _ _ hl5 (by omega)
    have hne := kee.eq n _ hn5 (Ne.symm hbn)
    obtain ⟨nx, _, enx⟩ := name_at hne l12 hcl r0 (by omega)
    have hll : l.length ≤ 100 := by have := (List.getElem?_eq_some_iff.mp hx).1; rw [rngD_len] at this; omega
    have ha := appD_at (y := .tup [.str nx, .int (1 + va), past, .tup fs]) hle (by omega)
    refine ⟨_, rfl, [some (.loc b), some (.int lg), some (.int most), some (.loc n), some (.loc st2.length), some (.int k), some (.tup vs), some (.loc st5.length), some (.int (1 + va)), some past, some (.tup fs), none, none, none], se.set st5.length (.lst (l ++ [.tup [.str nx, .int (1 + va), past, .tup fs]])), .inl ?_, _, _, _, _, rfl, kee.new (Nat.le_refl _) (by omega), l ++ [.tup [.str nx, .int (1 + va), past, .tup fs]], get_set_eq hle, by simp; omega, fun t ht => ?_⟩
    · refine sSeq_nx (ρ' := [some (.loc b), some (.int lg), some (.int most), some (.loc n), some (.loc st2.length), some (.int k), some (.tup vs), some (.loc st5.length), some (.int (1 + va)), y9, y10, none, none, none]) (st' := sa) (by simp [ema, ea]) ?_
      refine sSeq_nx (ρ' := [some (.loc b), some (.int lg), some (.int most), some (.loc n), some (.loc st2.length), some (.int k), some (.tup vs), some (.loc st5.length), some (.int (1 + va)), some past, y10, none, none, none]) (st' := sc) (by simp [emb, eb, ec, epast]) ?_
      refine sSeq_nx (ρ' := [some (.loc b), some (.int lg), some (.int most), some (.loc n), some (.loc st2.length), some (.int k), some (.tup vs), some (.loc st5.length), some (.int (1 + va)), some past, some (.tup fs), none, none, none]) (st' := se) (sSet_ok (d := .tup fs) (by rw [cS1_ap, ee, R.bind_ok]; rfl) rfl) ?_
      exact sExp_ok (app_ok rfl hle (y := .tup [.str nx, .int (1 + va), past, .tup fs]) (by simp [enx]) ha)
    · rcases List.mem_append.mp ht with h | h
      · exact hall t h
      · rw [List.mem_singleton] at h
        subst h
        exact ⟨_, _, _, fs, rfl, by omega, by omega⟩) [some (.loc b), some (.int lg), some (.int most), some (.loc n), some (.loc st2.length), x4, some (.tup vs), some (.loc st5.length), none, none, none, none, none, none] st6 ⟨x4, none, none, none, rfl, k8', [], h6, rfl, by simp⟩
  subst hρ
  rw [rngD_len, Nat.zero_add] at l7
  -- tells
  obtain ⟨m3, hm3, em3⟩ := pick2 3 9 hl
  obtain ⟨v6, st8, e9, k10, p10, q10⟩ := draw_pos (many := m3) k9.bag (by omega) (by omega)
  have hn8 := k10.eq n _ (k9.eq n _ hn5 (Ne.symm hbn)) (Ne.symm hbn)
  have k11 : Kp b st8 (st8 ++ [.lst ((ss.map D.str).take v6.toNat)]) := Kp.app k10.bag
  obtain ⟨m4, hm4, em4⟩ := pick2 3 6 hl
  obtain ⟨v8, st9, e10, k12, p12, q12⟩ := draw_pos (many := m4) k11.bag (by omega) (by omega)
  have kend := (k10.trans k11).trans k12
  have hn9 := kend.eq n _ (k9.eq n _ hn5 (Ne.symm hbn)) (Ne.symm hbn)
  have hk9 : st9[st2.length]? = some (.lst ks) := kend.eq _ _ (k9.eq _ _ hk5 (by omega)) (by omega)
  have ht9 : st9[st5.length]? = some (.lst ts) := kend.eq _ _ h7 (by omega)
  obtain ⟨nx, _, enx⟩ := name_at hn9 l12 hcl (k := 11) (by decide) (by decide)
  have kall : Kp b st st9 := (((k2.trans k4).trans k6).trans k9).trans kend
  obtain ⟨T1, T2⟩ := tabs_of (m := most) (by omega) hts
  generalize htl : (ss.map D.str).take v6.toNat = tl at e10 k11
  have ltl : tl.length ≤ 8 := by rw [← htl, List.length_take]; omega
  refine ⟨⟨ks.length, vs.length, tl.length, ts.map tabLen⟩, ⟨⟨by show 1 ≤ ks.length; omega, by show ks.length ≤ 8; omega⟩, by show vs.length ≤ 8; omega, ltl, by show (ts.map tabLen).length ≤ 6; rw [List.length_map]; omega, T2⟩, ?_⟩
  refine drw_of (ρ0 := [some (.loc b), some (.int lg), none, none, none, none, none, none, none, none, none, none, none, none]) rfl hb kall (d := .tup [.str "world", .str nx, .int (1 + v8), .tup ks, .tup vs, .tup ts, .tup tl]) ⟨nx, 1 + v8, ks, vs, ts, tl, rfl, rfl, rfl, rfl, T1⟩ ?_
  unfold b__law_declared
  refine sSeq_nx (ρ' := [some (.loc b), some (.int lg), some (.int most), none, none, none, none, none, none, none, none, none, none, none]) (st' := st) (by simp [em]) ?_
  refine sSeq_nx (ρ' := [some (.loc b), some (.int lg), some (.int most), some (.loc n), none, none, none, none, none, none, none, none, none, none]) (st' := st2) (by simp [e1, e2]) ?_
  refine sSeq_nx (ρ' := [some (.loc b), some (.int lg), some (.int most), some (.loc n), some (.loc st2.length), none, none, none, none, none, none, none, none, none]) (st' := st2 ++ [.lst []]) (by simp) ?_
  refine sSeq_nx (ρ' := [some (.loc b), some (.int lg), some (.int most), some (.loc n), some (.loc st2.length), x4, none, none, none, none, none, none, none, none]) (st' := st4) (sFor_ok (b := ⟨fun _ => True, rngD 0 (1 + n2)⟩) (st' := st3) (cRng1_ok (by simp [em1, e3]) (by omega)) e4) ?_
  refine sSeq_nx (ρ' := [some (.loc b), some (.int lg), some (.int most), some (.loc n), some (.loc st2.length), x4, some (.tup vs), none, none, none, none, none, none, none]) (st' := st5) (sSet_ok (d := .tup vs) (by rw [cS1_ap, e6, R.bind_ok]; rfl) rfl) ?_
  refine sSeq_nx (ρ' := [some (.loc b), some (.int lg), some (.int most), some (.loc n), some (.loc st2.length), x4, some (.tup vs), some (.loc st5.length), none, none, none, none, none, none]) (st' := st5 ++ [.lst []]) (by simp) ?_
  refine sSeq_nx (ρ' := [some (.loc b), some (.int lg), some (.int most), some (.loc n), some (.loc st2.length), y5, some (.tup vs), some (.loc st5.length), y8, y9, y10, none, none, none]) (st' := st7) (sFor_ok (b := ⟨fun _ => True, rngD 0 n4⟩) (st' := st6) (cRng1_ok (by simp [e7]) (by omega)) e8) ?_
  refine sSeq_nx (ρ' := [some (.loc b), some (.int lg), some (.int most), some (.loc n), some (.loc st2.length), y5, some (.tup vs), some (.loc st5.length), y8, y9, y10, some (.tup tl), none, none]) (st' := st8 ++ [.lst tl]) (sSet_ok (d := .tup tl) ?_ rfl) ?_
  · have hcut : sliceD (.loc n) none (some v6) st8 = .ok (.loc st8.length) (st8 ++ [.lst tl]) := by
      simp only [sliceD, hn8]
      rw [cut_pre p10 (by simp; omega), htl]
    have hg : (st8 ++ [O.lst tl])[st8.length]? = some (.lst tl) := get_new
    simp [em3, e9, hcut, seqD, tupS]
  refine sSeq_nx (ρ' := [some (.loc b), some (.int lg), some (.int most), some (.loc n), some (.loc st2.length), y5, some (.tup vs), some (.loc st5.length), y8, y9, y10, some (.tup tl), some (.int (1 + v8)), none]) (st' := st9) (by simp [em4, e10]) ?_
  simp [enx, seqD, tupS, hk9, ht9]
end PMl

set_option Elab.async false
set_option linter.all false
set_option maxRecDepth 100000
set_option maxHeartbeats 2000000
/-! the plain law of k95, 19: drawn expressions. -/
namespace PMl
open PySem PM L2
theorem decl_at {d : Dims} {w : D} (hd : d.sm) (h : DeclOk d w) : WAt w d := by
  obtain ⟨nmx, se, ks, vs, ts, tl, rfl, h1, h2, h3, h4⟩ := h
  have a := hd.nk; have b := hd.nv; have c := hd.nt; have e := hd.nf
  exact ⟨⟨_, _, _, ks, vs, ts, tl, [], rfl, h1, h2, h3, h4⟩, by omega⟩
theorem wat_len {d : Dims} {w : D} (h : WAt w d) : (∀ s, (getD w (.int 3) s).bind lenD = .ok (.int (d.nk : Int)) s) ∧ (∀ s, (getD w (.int 4) s).bind lenD = .ok (.int (d.nv : Int)) s) ∧ (∀ s, (getD w (.int 5) s).bind lenD = .ok (.int (d.tabs.length : Int)) s) ∧ ∀ s, (getD w (.int 6) s).bind lenD = .ok (.int (d.nt : Int)) s := by
  obtain ⟨x0, x1, x2, ks, vs, ts, tl, r, rfl, h1, h2, h3, h4⟩ := h.form
  have h5 := h4.len
  refine ⟨fun s => ?_, fun s => ?_, fun s => ?_, fun s => ?_⟩ <;> simp [lenD, h1, h2, h3, h5]
/-- the fields of a table -/
theorem wat_fields {d : Dims} {w : D} (h : WAt w d) {t n : Nat} (ht : d.tabs[t]? = some n) : n ≤ 1000 ∧ ∃ fs : List D, fs.length = n ∧ ∀ s, ((getD w (.int 5) s).bind fun x st => getD x (.int (t : Int)) st).bind (fun x st => getD x (.int 3) st) = .ok (.tup fs) s := by
  obtain ⟨x0, x1, x2, ks, vs, ts, tl, r, rfl, h1, h2, h3, h4⟩ := h.form
  obtain ⟨hn, a, b, c, fs, h5, h6⟩ := h4.at_ t n ht
  exact ⟨hn, fs, h6, fun s => by simp [atD_nat s h5]⟩
def EsOk (d : Dims) (es : List Nat) : Prop := ∀ t ∈ es, t < d.tabs.length
theorem each_at {es : List Nat} {k : Nat} (hk : k < es.length) (s : Sto) : getD (.tup (es.map natD)) (.int (k : Int)) s = .ok (.int ((es[k] : Nat) : Int)) s := by
  have : (es.map natD)[k]? = some (natD es[k]) := by rw [List.getElem?_map, List.getElem?_eq_getElem hk]; rfl
  rw [getD_tup]
  exact atD_nat s this
/-- len(w[5][eaches[k]][3]) -/
theorem fld_len {d : Dims} {w : D} {es : List Nat} (hd : d.sm) (h : WAt w d) (he : EsOk d es) {k i : Nat} (hk : k < es.length) : ∃ n : Nat, 1 ≤ n ∧ n ≤ 6 ∧ (∀ f, f < n → FldOk d es k f) ∧ ∀ (ρ : PM.Env) (s : Sto), ρ[1]? = some (some w) → ρ[2]? = some (some (.tup (es.map natD))) → ρ[i]? = some (some (.int (k : Int))) →
    cB1 lenD (cOp2 getD (cOp2 getD (cOp2 getD (cVar 1) (cC (.int 5))) (cOp2 getD (cVar 2) (cVar i))) (cC (.int 3))) ρ s = .ok (.int (n : Int)) s := by
  have ht := he es[k] (List.getElem_mem hk)
  have hn := hd.tab _ (List.getElem_mem ht)
  refine ⟨d.tabs[es[k]], hn.1, hn.2, fun f hf => ⟨es[k], _, List.getElem?_eq_getElem hk, List.getElem?_eq_getElem ht, hf⟩, fun ρ s h1 h2 h3 => ?_⟩
  obtain ⟨_, fs, l, e⟩ := wat_fields h (List.getElem?_eq_getElem ht)
  have e := e s
  simp only [cB1_ap, cOp2_ap, cVar_ap, h1, h2, h3, cC_ap, R.bind_ok]
  generalize getD w (.int 5) s = g5 at e
  cases g5 with
  | bad => cases e
  | exc c fs st => cases e
  | ok x st =>
    simp only [R.bind_ok, each_at hk] at e ⊢
    rw [e]
    simp [lenD, l]
/-- a drawn expression -/
def IsEx (d : Dims) (es : List Nat) (m z : Nat) (v : D) : Prop := ∃ e : Ex, v = e.D ∧ e.ok d es ∧ e.dep ≤ m ∧ e.size ≤ z
theorem gt_len {n : Nat} (s : Sto) : gtD (.int (n : Int)) (.int 0) s = .ok (.bl (decide (0 < n))) s := by
  show R.ok (D.bl (decide ((0 : Int) < n))) _ = _
  have : decide ((0 : Int) < n) = decide (0 < n) := by
    rw [Bool.eq_iff_iff, decide_eq_true_iff, decide_eq_true_iff]; omega
  rw [this]
section
variable {b : Nat} {st : Sto} {d : Dims} {w : D} {es : List Nat}
theorem leaf_ok (hd : d.sm) (hw : WAt w d) (he : EsOk d es) (hz : es.length ≤ 1000) (hb : Bg b st) : Drw b st (m__law_leaf [.loc b, w, .tup (es.map natD)] st) (IsEx d es 1 1) := by
  obtain ⟨l3, l4, l5, l6⟩ := wat_len hw
  have le : ∀ s, lenD (.tup (es.map natD)) s = .ok (.int (es.length : Int)) s := fun s => by simp [lenD]
  obtain ⟨v, st1, e1, k1, p1, q1⟩ := draw_pos (many := 6) hb (by decide) (by decide)
  have b1 := k1.bag
  have start : ∀ {P : D → Prop} {d' : D} {st' : Sto} (k : Kp b st1 st') (p : P d') (tl : S), tl [some (.loc b), some w, some (.tup (es.map natD)), some (.int v), none] st1 = .rt d' st' →
      b__law_leaf = sSeq (sSet 3 (cCall m__law_draw [(cVar 0), (cC (.int 6))])) tl → Drw b st (m__law_leaf [.loc b, w, .tup (es.map natD)] st) P := fun {P d' st'} k p tl h e => by
    refine drw_of (ρ0 := [some (.loc b), some w, some (.tup (es.map natD)), none, none]) rfl hb (k1.trans k) p ?_
    rw [e]
    exact sSeq_nx (sSet_ok (d := .int v) (st' := st1) (by simp [e1]) rfl) h
  -- the value
  by_cases c0 : v = 0 ∧ 0 < d.nv
  · obtain ⟨q, st2, e2, k2, p2, q2⟩ := draw_pos (many := (d.nv : Int)) b1 (by omega) (by have := hd.nv; omega)
    obtain ⟨n, rfl⟩ := nat_of p2
    refine start (d' := (Ex.val n).D) k2 ⟨.val n, rfl, by simp only [Ex.ok]; omega, by simp [Ex.dep], by simp [Ex.size]⟩ _ ?_ rfl
    refine sSeq_rt (sIf_true (st' := st1) ?_ (sRet_ok ?_))
    · obtain ⟨rfl, c1⟩ := c0
      simp [l4, gt_len, c1]
    · simp [l4, e2, Ex.D]
  have t0 : (tAndD (cTst (cOp2 eqD (cVar 3) (cC (.int 0)))) (cTst (cOp2 gtD (cB1 lenD (cOp2 getD (cVar 1) (cC (.int 4)))) (cC (.int 0))))) [some (.loc b), some w, some (.tup (es.map natD)), some (.int v), none] st1 = .ok false st1 := by
    by_cases hv : v = 0
    · have : ¬ 0 < d.nv := fun z => c0 ⟨hv, z⟩
      simp [hv, l4, gt_len, this]
    · simp [hv]
  -- the field
  by_cases c1 : v < 3 ∧ 0 < es.length
  · obtain ⟨q, st2, e2, k2, p2, q2⟩ := draw_pos (many := (es.length : Int)) b1 (by omega) (by omega)
    obtain ⟨k, rfl⟩ := nat_of p2
    obtain ⟨n, n1, n6, hf, hl⟩ := fld_len (i := 4) hd hw he (k := k) (by omega)
    obtain ⟨f, st3, e3, k3, p3, q3⟩ := draw_pos (many := (n : Int)) k2.bag (by omega) (by omega)
    obtain ⟨f, rfl⟩ := nat_of p3
    refine start (d' := (Ex.fld k f).D) (k2.trans k3) ⟨.fld k f, rfl, hf f (by omega), by simp [Ex.dep], by simp [Ex.size]⟩ _ ?_ rfl
    refine sSeq_nx (sIf_false t0 rfl) (sSeq_rt (sIf_true (st' := st1) ?_ ?_))
    · simp [le, gt_len, c1, ltD]
    refine sSeq_nx (sSet_ok (d := .int (k : Int)) (st' := st2) (by simp [le, e2]) rfl) (sRet_ok ?_)
    have := hl [some (.loc b), some w, some (.tup (es.map natD)), some (.int v), some (.int (k : Int))] st2 rfl rfl rfl
    show cTup [cC (.str "field"), cVar 4, cCall m__law_draw [cVar 0, cB1 lenD (cOp2 getD (cOp2 getD (cOp2 getD (cVar 1) (cC (.int 5))) (cOp2 getD (cVar 2) (cVar 4))) (cC (.int 3)))]] [some (.loc b), some w, some (.tup (es.map natD)), some (.int v), some (.int (k : Int))] st2 = _
    rw [cTup_ap]
    simp only [cArgs_cons, cArgs_nil, cC_ap, cVar_ap, List.getElem?_cons_succ, List.getElem?_cons_zero, R.bind_ok, cCall_ap, this, e3]
    rfl
  have t1 : (tAndD (cTst (cOp2 ltD (cVar 3) (cC (.int 3)))) (cTst (cOp2 gtD (cB1 lenD (cVar 2)) (cC (.int 0))))) [some (.loc b), some w, some (.tup (es.map natD)), some (.int v), none] st1 = .ok false st1 := by
    by_cases hv : v < 3
    · have : ¬ 0 < es.length := fun z => c1 ⟨hv, z⟩
      simp [hv, le, gt_len, this, ltD]
    · simp [hv, ltD]
  -- the count
  by_cases c2 : v = 3 ∧ 0 < d.tabs.length
  · obtain ⟨q, st2, e2, k2, p2, q2⟩ := draw_pos (many := (d.tabs.length : Int)) b1 (by omega) (by have := hd.nf; omega)
    obtain ⟨n, rfl⟩ := nat_of p2
    refine start (d' := (Ex.cnt n).D) k2 ⟨.cnt n, rfl, by simp only [Ex.ok]; omega, by simp [Ex.dep], by simp [Ex.size]⟩ _ ?_ rfl
    refine sSeq_nx (sIf_false t0 rfl) (sSeq_nx (sIf_false t1 rfl) (sSeq_rt (sIf_true (st' := st1) ?_ (sRet_ok ?_))))
    · obtain ⟨rfl, c3⟩ := c2
      simp [l5, gt_len, c3]
    · simp [l5, e2, Ex.D]
  have t2 : (tAndD (cTst (cOp2 eqD (cVar 3) (cC (.int 3)))) (cTst (cOp2 gtD (cB1 lenD (cOp2 getD (cVar 1) (cC (.int 5)))) (cC (.int 0))))) [some (.loc b), some w, some (.tup (es.map natD)), some (.int v), none] st1 = .ok false st1 := by
    by_cases hv : v = 3
    · have : ¬ 0 < d.tabs.length := fun z => c2 ⟨hv, z⟩
      simp [hv, l5, gt_len, this]
    · simp [hv]
  by_cases c3 : v = 4
  · refine start (d' := Ex.tick.D) (Kp.refl b1) ⟨.tick, rfl, trivial, by simp [Ex.dep], by simp [Ex.size]⟩ _ ?_ rfl
    exact sSeq_nx (sIf_false t0 rfl) (sSeq_nx (sIf_false t1 rfl) (sSeq_nx (sIf_false t2 rfl) (sSeq_rt (sIf_true (st' := st1) (by simp [c3]) (sRet_ok (by simp [Ex.D]))))))
  obtain ⟨x, st2, e2, k2, p2, q2⟩ := draw_pos (many := 5000) b1 (by decide) (by decide)
  obtain ⟨y, st3, e3, k3, p3, q3⟩ := draw_pos (many := 8) k2.bag (by decide) (by decide)
  obtain ⟨z, hz', ez⟩ := atD_in (xs := [.int 0, .int 1, .int 2, .int 3, .int 5, .int 7, .int 2147483647, .int x]) (i := y) st3 p3 (by simpa using q3)
  obtain ⟨m, rfl, hm⟩ : ∃ m : Int, z = .int m ∧ 0 ≤ m ∧ m ≤ 2147483647 := by
    simp at hz'
    rcases hz' with h | h | h | h | h | h | h | h <;> exact ⟨_, h, by omega, by omega⟩
  refine start (d' := (Ex.num m).D) (k2.trans k3) ⟨.num m, rfl, hm, by simp [Ex.dep], by simp [Ex.size]⟩ _ ?_ rfl
  refine sSeq_nx (sIf_false t0 rfl) (sSeq_nx (sIf_false t1 rfl) (sSeq_nx (sIf_false t2 rfl) (sSeq_nx (sIf_false (st' := st1) (by simp [c3]) rfl) (sRet_ok ?_))))
  simp [e2, e3, ez, Ex.D]
end
end PMl

set_option Elab.async false
set_option linter.all false
set_option maxRecDepth 100000
set_option maxHeartbeats 4000000
/-! the plain law of k95, 20: drawn expressions, statements, bodies. -/
namespace PMl
open PySem PM L2
theorem Drw.imp {b : Nat} {st : Sto} {r : R D} {P Q : D → Prop} (h : Drw b st r P) (q : ∀ v, P v → Q v) : Drw b st r Q := by
  obtain ⟨v, st', e, k, p⟩ := h
  exact ⟨v, st', e, k, q v p⟩
theorem signs_len : signs.length = 13 := rfl
theorem pow_le (D : Nat) (h : 2 ≤ D) : ∃ p : Nat, 2 ^ (D - 1) = p ∧ 2 ^ D = 2 * p ∧ 2 ≤ p := by
  obtain ⟨m, rfl⟩ : ∃ m, D = m + 2 := ⟨D - 2, by omega⟩
  have : 1 ≤ 2 ^ m := Nat.one_le_two_pow
  refine ⟨2 ^ (m + 1), by congr 1, by rw [Nat.pow_succ]; omega, ?_⟩
  rw [Nat.pow_succ]; omega
theorem two_le (D : Nat) (h : 1 ≤ D) : 2 ≤ 2 ^ D := by
  obtain ⟨m, rfl⟩ : ∃ m, D = m + 1 := ⟨D - 1, by omega⟩
  have : 1 ≤ 2 ^ m := Nat.one_le_two_pow
  rw [Nat.pow_succ]; omega
section
variable {b : Nat} {d : Dims} {w : D} {es : List Nat}
theorem e_ok (hd : d.sm) (hw : WAt w d) (he : EsOk d es) (hz : es.length ≤ 1000) : ∀ (n md : Nat) (dp : Int) (st : Sto), Bg b st → 1 ≤ md → md ≤ n → dp ≤ md → Drw b st (m__law_e n [.loc b, w, .tup (es.map natD), .int dp] st) (IsEx d es md (2 ^ md - 1)) := by
  intro n
  induction n with
  | zero => intro md dp st _ h1 h2; omega
  | succ n ih =>
    intro md dp st hb h1 h2 h3
    obtain ⟨l3, l4, l5, l6⟩ := wat_len hw
    have le : ∀ s, lenD (.tup (es.map natD)) s = .ok (.int (es.length : Int)) s := fun s => by simp [lenD]
    obtain ⟨v, st1, e1, k1, p1, q1⟩ := draw_pos (many := 9) hb (by decide) (by decide)
    have b1 : Bg b st1 := k1.bag
    have hp := two_le md h1
    have start : ∀ {Q : D → Prop} {d' : D} {st' : Sto} (k : Kp b st1 st') (p : Q d') (tl : S), tl [some (.loc b), some w, some (.tup (es.map natD)), some (.int dp), some (.int v), none, none, none] st1 = .rt d' st' →
        b__law_e (m__law_e n) = sSeq (sSet 4 (cCall m__law_draw [(cVar 0), (cC (.int 9))])) tl → Drw b st (m__law_e (n + 1) [.loc b, w, .tup (es.map natD), .int dp] st) Q := fun {Q d' st'} k p tl h e => by
      show Drw b st (mDef 8 (b__law_e (m__law_e n)) _ st) Q
      refine drw_of (ρ0 := [some (.loc b), some w, some (.tup (es.map natD)), some (.int dp), none, none, none, none]) rfl hb (k1.trans k) p ?_
      rw [e]
      exact sSeq_nx (sSet_ok (d := .int v) (st' := st1) (by simp [e1]) rfl) h
    by_cases c0 : dp < 2 ∨ v < 2
    · obtain ⟨x, st2, e2, k2, e, rfl, o1, o2, o3⟩ := leaf_ok hd hw he hz b1
      refine start k2 ⟨e, rfl, o1, by omega, by omega⟩ _ ?_ rfl
      refine sSeq_rt (sIf_true (st' := st1) ?_ (sRet_ok (by simp [e2])))
      rcases c0 with c0 | c0
      · simp [c0, ltD]
      · by_cases q : dp < 2 <;> simp [c0, q, ltD]
    have t0 : (tOrD (cTst (cOp2 ltD (cVar 3) (cC (.int 2)))) (cTst (cOp2 ltD (cVar 4) (cC (.int 2))))) [some (.loc b), some w, some (.tup (es.map natD)), some (.int dp), some (.int v), none, none, none] st1 = .ok false st1 := by
      rw [not_or] at c0
      simp [c0, ltD]
    rw [not_or] at c0
    have hD : 2 ≤ md := by omega
    obtain ⟨p, hp1, hp2, hp3⟩ := pow_le md hD
    have sub : ∀ s, Bg b s → Drw b s (m__law_e n [.loc b, w, .tup (es.map natD), .int (dp - 1)] s) (IsEx d es (md - 1) (p - 1)) := fun s hs => by
      have := ih (md - 1) (dp - 1) s hs (by omega) (by omega) (by omega)
      rw [hp1] at this
      exact this
    by_cases c1 : v = 2
    · obtain ⟨x, st2, e2, k2, e, rfl, o1, o2, o3⟩ := sub st1 b1
      refine start (d' := (Ex.not e).D) k2 ⟨.not e, rfl, o1, by simp only [Ex.dep]; omega, by simp only [Ex.size]; omega⟩ _ ?_ rfl
      exact sSeq_nx (sIf_false t0 rfl) (sSeq_rt (sIf_true (st' := st1) (by simp [c1]) (sRet_ok (by simp [e2, Ex.D]))))
    by_cases c2 : v = 3
    · obtain ⟨x, st2, e2, k2, e, rfl, o1, o2, o3⟩ := sub st1 b1
      refine start (d' := (Ex.drw e).D) k2 ⟨.drw e, rfl, o1, by simp only [Ex.dep]; omega, by simp only [Ex.size]; omega⟩ _ ?_ rfl
      exact sSeq_nx (sIf_false t0 rfl) (sSeq_nx (sIf_false (st' := st1) (by simp [c1]) rfl) (sSeq_rt (sIf_true (st' := st1) (by simp [c2]) (sRet_ok (by simp [e2, Ex.D])))))
    by_cases c3 : v = 4
    · obtain ⟨x, st2, e2, k2, e, rfl, o1, o2, o3⟩ := sub st1 b1
      obtain ⟨q, st3, e3, k3, p3, q3⟩ := draw_pos (many := (d.nk : Int)) k2.bag (by have := hd.nk; omega) (by have := hd.nk; omega)
      obtain ⟨q, rfl⟩ := nat_of p3
      refine start (d' := (Ex.mov e q).D) (k2.trans k3) ⟨.mov e q, rfl, ⟨o1, by omega⟩, by simp only [Ex.dep]; omega, by simp only [Ex.size]; omega⟩ _ ?_ rfl
      exact sSeq_nx (sIf_false t0 rfl) (sSeq_nx (sIf_false (st' := st1) (by simp [c1]) rfl) (sSeq_nx (sIf_false (st' := st1) (by simp [c2]) rfl) (sSeq_rt (sIf_true (st' := st1) (by simp [c3]) (sRet_ok (by simp [e2, e3, l3, Ex.D]))))))
    by_cases c4 : v = 5 ∧ 0 < es.length
    · obtain ⟨kk, st2, e2, k2, p2, q2⟩ := draw_pos (many := (es.length : Int)) b1 (by omega) (by omega)
      obtain ⟨k, rfl⟩ := nat_of p2
      obtain ⟨m, m1, m6, hf, hl⟩ := fld_len (i := 5) hd hw he (k := k) (by omega)
      obtain ⟨f, st3, e3, k3, p3, q3⟩ := draw_pos (many := (m : Int)) k2.bag (by omega) (by omega)
      obtain ⟨f, rfl⟩ := nat_of p3
      obtain ⟨x, st4, e4, k4, e, rfl, o1, o2, o3⟩ := sub st3 k3.bag
      refine start (d' := (Ex.past k f e).D) ((k2.trans k3).trans k4) ⟨.past k f e, rfl, ⟨hf f (by omega), o1⟩, by simp only [Ex.dep]; omega, by simp only [Ex.size]; omega⟩ _ ?_ rfl
      refine sSeq_nx (sIf_false t0 rfl) (sSeq_nx (sIf_false (st' := st1) (by simp [c1]) rfl) (sSeq_nx (sIf_false (st' := st1) (by simp [c2]) rfl) (sSeq_nx (sIf_false (st' := st1) (by simp [c3]) rfl) (sSeq_rt (sIf_true (st' := st1) ?_ ?_)))))
      · obtain ⟨rfl, c5⟩ := c4
        simp [le, gt_len, c5]
      refine sSeq_nx (sSet_ok (d := .int (k : Int)) (st' := st2) (by simp [le, e2]) rfl) (sRet_ok ?_)
      have := hl [some (.loc b), some w, some (.tup (es.map natD)), some (.int dp), some (.int v), some (.int (k : Int)), none, none] st2 rfl rfl rfl
      show cTup [cC (.str "past"), cVar 5, cCall m__law_draw [cVar 0, cB1 lenD (cOp2 getD (cOp2 getD (cOp2 getD (cVar 1) (cC (.int 5))) (cOp2 getD (cVar 2) (cVar 5))) (cC (.int 3)))], cCall (m__law_e n) [cVar 0, cVar 1, cVar 2, cOp2 subD (cVar 3) (cC (.int 1))]] [some (.loc b), some w, some (.tup (es.map natD)), some (.int dp), some (.int v), some (.int (k : Int)), none, none] st2 = _
      rw [cTup_ap]
      simp only [cArgs_cons, cArgs_nil, cC_ap, cVar_ap, List.getElem?_cons_succ, List.getElem?_cons_zero, R.bind_ok, cCall_ap, this, e3, cOp2_ap, subD_int, e4]
      rfl
    have t4 : (tAndD (cTst (cOp2 eqD (cVar 4) (cC (.int 5)))) (cTst (cOp2 gtD (cB1 lenD (cVar 2)) (cC (.int 0))))) [some (.loc b), some w, some (.tup (es.map natD)), some (.int dp), some (.int v), none, none, none] st1 = .ok false st1 := by
      by_cases hv : v = 5
      · have : ¬ 0 < es.length := fun z => c4 ⟨hv, z⟩
        simp [hv, le, gt_len, this]
      · simp [hv]
    have b2 : Bg b (st1 ++ [.lst (signs.map D.str)]) := (Kp.app b1).bag
    obtain ⟨x, st2, e2, k2, ea, rfl, o1, o2, o3⟩ := sub _ b2
    obtain ⟨v3, st3, e3, k3, p3, q3⟩ := draw_pos (many := 13) k2.bag (by decide) (by decide)
    have hs : st3[st1.length]? = some (.lst (signs.map D.str)) := (k2.trans k3).eq _ _ get_new (by have := b1.lt; omega)
    obtain ⟨y, hy, ey⟩ := atD_in (xs := signs.map D.str) (i := v3) st3 p3 (by simpa [signs] using q3)
    obtain ⟨s, hss, rfl⟩ := List.mem_map.mp hy
    obtain ⟨x, st4, e4, k4, eb, rfl, u1, u2, u3⟩ := sub st3 k3.bag
    refine start (d' := (Ex.op s ea eb).D) ((((Kp.app b1).trans k2).trans k3).trans k4) ⟨.op s ea eb, rfl, ⟨hss, o1, u1⟩, by simp only [Ex.dep]; omega, by simp only [Ex.size]; omega⟩ _ ?_ rfl
    refine sSeq_nx (sIf_false t0 rfl) (sSeq_nx (sIf_false (st' := st1) (by simp [c1]) rfl) (sSeq_nx (sIf_false (st' := st1) (by simp [c2]) rfl) (sSeq_nx (sIf_false (st' := st1) (by simp [c3]) rfl) (sSeq_nx (sIf_false t4 rfl) ?_))))
    refine sSeq_nx (ρ' := [some (.loc b), some w, some (.tup (es.map natD)), some (.int dp), some (.int v), none, some (.loc st1.length), none]) (st' := st1 ++ [.lst (signs.map D.str)]) (by simp [signs]) ?_
    refine sSeq_nx (ρ' := [some (.loc b), some w, some (.tup (es.map natD)), some (.int dp), some (.int v), none, some (.loc st1.length), some ea.D]) (st' := st2) (by simp [e2]) ?_
    refine sRet_ok ?_
    simp [e3, getD_lst hs, ey, e4, Ex.D]
end
end PMl

set_option Elab.async false
set_option linter.all false
set_option maxRecDepth 100000
set_option maxHeartbeats 4000000
/-! the plain law of k95, 21: drawn statements and bodies. -/
namespace PMl
open PySem PM L2
def IsSt (d : Dims) (es : List Nat) (m z : Nat) (v : D) : Prop := ∃ s : St, v = s.D ∧ s.ok d es ∧ s.dep ≤ m ∧ s.size ≤ z
def IsBody (d : Dims) (es : List Nat) (m n z : Nat) (v : D) : Prop := ∃ bd : List St, v = .tup (bodyD bd) ∧ bodyOk d es bd ∧ bodyDep bd ≤ m ∧ bodySize bd ≤ n * z ∧ bd.length ≤ n
theorem choose_list {α : Type} {f : α → D} {P : α → Prop} : ∀ {ys : List D}, (∀ y ∈ ys, ∃ s, y = f s ∧ P s) → ∃ l : List α, ys = l.map f ∧ ∀ s ∈ l, P s
  | [], _ => ⟨[], rfl, by simp⟩
  | y :: r, h => by
    obtain ⟨s, e, p⟩ := h y List.mem_cons_self
    obtain ⟨l, e2, p2⟩ := choose_list (ys := r) fun z hz => h z (List.mem_cons_of_mem _ hz)
    exact ⟨s :: l, by rw [e, e2]; rfl, fun x hx => (List.mem_cons.mp hx).elim (fun q => q ▸ p) (p2 x)⟩
theorem bodyDep_le {m : Nat} : ∀ {l : List St}, (∀ s ∈ l, s.dep ≤ m) → bodyDep l ≤ m
  | [], _ => by simp [bodyDep]
  | s :: r, h => by
    have h1 := h s List.mem_cons_self
    have h2 := bodyDep_le (l := r) fun x hx => h x (List.mem_cons_of_mem _ hx)
    simp only [bodyDep]; omega
theorem bodySize_le {z : Nat} : ∀ {l : List St}, (∀ s ∈ l, s.size ≤ z) → bodySize l ≤ l.length * z
  | [], _ => by simp [bodySize]
  | s :: r, h => by
    have h1 := h s List.mem_cons_self
    have h2 := bodySize_le (l := r) fun x hx => h x (List.mem_cons_of_mem _ hx)
    simp only [bodySize, List.length_cons, Nat.add_mul]; omega
theorem maxDep_le {m : Nat} : ∀ {l : List Ex}, (∀ s ∈ l, s.dep ≤ m) → maxDep l ≤ m
  | [], _ => by simp [maxDep]
  | s :: r, h => by
    have h1 := h s List.mem_cons_self
    have h2 := maxDep_le (l := r) fun x hx => h x (List.mem_cons_of_mem _ hx)
    simp only [maxDep]; omega
theorem sizes_le {z : Nat} : ∀ {l : List Ex}, (∀ s ∈ l, s.size ≤ z) → sizes l ≤ l.length * z
  | [], _ => by simp [sizes]
  | s :: r, h => by
    have h1 := h s List.mem_cons_self
    have h2 := sizes_le (l := r) fun x hx => h x (List.mem_cons_of_mem _ hx)
    simp only [sizes, List.length_cons, Nat.add_mul]; omega
theorem pow4 (m : Nat) (h : 2 ≤ m) : ∃ p q : Nat, 2 ^ (m - 1) = p ∧ 4 ^ (m - 1) = q ∧ 4 ^ m = 4 * q ∧ 2 * p ≤ q ∧ 2 ≤ p := by
  obtain ⟨k, rfl⟩ : ∃ k, m = k + 2 := ⟨m - 2, by omega⟩
  refine ⟨2 ^ (k + 1), 4 ^ (k + 1), by congr 1, by congr 1, by rw [Nat.pow_succ]; omega, ?_, ?_⟩
  · rw [show (4 : Nat) = 2 * 2 from rfl, Nat.mul_pow]
    exact Nat.mul_le_mul_right _ (by rw [Nat.pow_succ]; have : 1 ≤ 2 ^ k := Nat.one_le_two_pow; omega)
  · rw [Nat.pow_succ]; have : 1 ≤ 2 ^ k := Nat.one_le_two_pow; omega
section
variable {b : Nat} {d : Dims} {w : D} {es : List Nat}
theorem sb_ok (hd : d.sm) (hw : WAt w d) (he : EsOk d es) (hz : es.length ≤ 1000) : ∀ n : Nat,
    (∀ (md : Nat) (st : Sto), Bg b st → 2 ≤ md → md ≤ 12 → 2 * md ≤ n → Drw b st (r__law_s n 0 [.loc b, w, .tup (es.map natD), .int (md : Int)] st) (IsSt d es md (4 ^ md))) ∧
    (∀ (md many : Nat) (st : Sto), Bg b st → 2 ≤ md → md ≤ 12 → 2 * md + 1 ≤ n → 1 ≤ many → many ≤ 100 → Drw b st (r__law_s n 1 [.loc b, w, .tup (es.map natD), .int (md : Int), .int (many : Int)] st) (IsBody d es md (many - 1) (4 ^ md))) := by
  intro n
  induction n with
  | zero => exact ⟨fun md st _ h1 _ h2 => by omega, fun md many st _ h1 _ h2 => by omega⟩
  | succ n ih =>
    obtain ⟨ihs, ihb⟩ := ih
    obtain ⟨l3, l4, l5, l6⟩ := wat_len hw
    have le : ∀ s, lenD (.tup (es.map natD)) s = .ok (.int (es.length : Int)) s := fun s => by simp [lenD]
    refine ⟨fun md st hb h1 h12 h2 => ?_, fun md many st hb h1 h12 h2 h3 h4 => ?_⟩
    · obtain ⟨v, st1, e1, k1, p1, q1⟩ := draw_pos (many := 8) hb (by decide) (by decide)
      have b1 : Bg b st1 := k1.bag
      obtain ⟨p, q, hp, hq, hq4, hpq, hp2⟩ := pow4 md h1
      have start : ∀ {Q : D → Prop} {d' : D} {st' : Sto} (k : Kp b st1 st') (p : Q d') (tl : S), tl [some (.loc b), some w, some (.tup (es.map natD)), some (.int (md : Int)), some (.int v), none, none, none, none, none] st1 = .rt d' st' →
          b__law_s (r__law_s n) = sSeq (sSet 4 (cCall m__law_draw [(cVar 0), (cC (.int 8))])) tl → Drw b st (r__law_s (n + 1) 0 [.loc b, w, .tup (es.map natD), .int (md : Int)] st) Q := fun {Q d' st'} k p tl h e => by
        show Drw b st (mDef 10 (b__law_s (r__law_s n)) _ st) Q
        refine drw_of (ρ0 := [some (.loc b), some w, some (.tup (es.map natD)), some (.int (md : Int)), none, none, none, none, none, none]) rfl hb (k1.trans k) p ?_
        rw [e]
        exact sSeq_nx (sSet_ok (d := .int v) (st' := st1) (by simp [e1]) rfl) h
      have sub : ∀ (s : Sto), Bg b s → Drw b s (m__law_e 12 [.loc b, w, .tup (es.map natD), .int ((md : Int) - 1)] s) (IsEx d es (md - 1) (p - 1)) := fun s hs => by
        have := e_ok hd hw he hz 12 (md - 1) ((md : Int) - 1) s hs (by omega) (by omega) (by omega)
        rw [hp] at this
        exact this
      -- set of a field
      by_cases c0 : v < 2 ∧ 0 < es.length
      · obtain ⟨kk, st2, e2, k2, p2, q2⟩ := draw_pos (many := (es.length : Int)) b1 (by omega) (by omega)
        obtain ⟨k, rfl⟩ := nat_of p2
        obtain ⟨m, m1, m6, hf, hl⟩ := fld_len (i := 5) hd hw he (k := k) (by omega)
        obtain ⟨f, st3, e3, k3, p3, q3⟩ := draw_pos (many := (m : Int)) k2.bag (by omega) (by omega)
        obtain ⟨f, rfl⟩ := nat_of p3
        obtain ⟨x, st4, e4, k4, e, rfl, o1, o2, o3⟩ := sub st3 k3.bag
        refine start (d' := (St.set (.fld k f) e).D) ((k2.trans k3).trans k4) ⟨.set (.fld k f) e, rfl, by simp only [St.ok]; exact ⟨hf f (by omega), o1⟩, by simp only [St.dep]; omega, by simp only [St.size]; omega⟩ _ ?_ rfl
        refine sSeq_rt (sIf_true (st' := st1) ?_ ?_)
        · obtain ⟨c5, c6⟩ := c0
          simp [le, gt_len, c5, c6, ltD]
        refine sSeq_nx (sSet_ok (d := .int (k : Int)) (st' := st2) (by simp [le, e2]) rfl) ?_
        refine sSeq_nx (ρ' := [some (.loc b), some w, some (.tup (es.map natD)), some (.int (md : Int)), some (.int v), some (.int (k : Int)), some (Pl.fld k f).D, none, none, none]) (st' := st3) (sSet_ok (d := (Pl.fld k f).D) ?_ rfl) ?_
        · have := hl [some (.loc b), some w, some (.tup (es.map natD)), some (.int (md : Int)), some (.int v), some (.int (k : Int)), none, none, none, none] st2 rfl rfl rfl
          show cTup [cC (.str "field"), cVar 5, cCall m__law_draw [cVar 0, cB1 lenD (cOp2 getD (cOp2 getD (cOp2 getD (cVar 1) (cC (.int 5))) (cOp2 getD (cVar 2) (cVar 5))) (cC (.int 3)))]] [some (.loc b), some w, some (.tup (es.map natD)), some (.int (md : Int)), some (.int v), some (.int (k : Int)), none, none, none, none] st2 = _
          rw [cTup_ap]
          simp only [cArgs_cons, cArgs_nil, cC_ap, cVar_ap, List.getElem?_cons_succ, List.getElem?_cons_zero, R.bind_ok, cCall_ap, this, e3]
          rfl
        · refine sRet_ok ?_
          simp [e4, St.D]
      have t0 : (tAndD (cTst (cOp2 ltD (cVar 4) (cC (.int 2)))) (cTst (cOp2 gtD (cB1 lenD (cVar 2)) (cC (.int 0))))) [some (.loc b), some w, some (.tup (es.map natD)), some (.int (md : Int)), some (.int v), none, none, none, none, none] st1 = .ok false st1 := by
        by_cases hv : v < 2
        · have : ¬ 0 < es.length := fun z => c0 ⟨hv, z⟩
          simp [hv, le, gt_len, this, ltD]
        · simp [hv, ltD]
      -- make
      by_cases c1 : v < 4 ∧ 0 < d.tabs.length
      · obtain ⟨tt, st2, e2, k2, p2, q2⟩ := draw_pos (many := (d.tabs.length : Int)) b1 (by omega) (by have := hd.nf; omega)
        obtain ⟨t, rfl⟩ := nat_of p2
        have ht : t < d.tabs.length := by omega
        obtain ⟨hn, fs, hfl, hfs⟩ := wat_fields hw (List.getElem?_eq_getElem ht)
        have htab := hd.tab _ (List.getElem_mem ht)
        obtain ⟨ys, st3, e3, k3, ly, hy⟩ := ccomp_drw (b := b) (i := 9) (it := cItr (cOp2 getD (cOp2 getD (cOp2 getD (cVar 1) (cC (.int 5))) (cVar 7)) (cC (.int 3)))) (te := cCall (m__law_e 12) [(cVar 0), (cVar 1), (cVar 2), (cOp2 min2D (cC (.int 3)) (cOp2 subD (cVar 3) (cC (.int 1))))]) (ρ := [some (.loc b), some w, some (.tup (es.map natD)), some (.int (md : Int)), some (.int v), none, none, some (.int (t : Int)), none, none]) (Q := IsEx d es (md - 1) (p - 1)) (xs := fs) (s0 := st2) (st := st2) (by
            refine cItr_tup ?_
            have := hfs st2
            simpa using this) (Kp.refl k2.bag) (by omega) (fun x hx s ks => by
            have := e_ok hd hw he hz 12 (md - 1) (min 3 ((md : Int) - 1)) s ks.bag (by omega) (by omega) (by omega)
            rw [hp] at this
            simpa [min2D] using this)
        obtain ⟨xs, rfl, hxs⟩ := choose_list (f := Ex.D) (P := fun e => e.ok d es ∧ e.dep ≤ md - 1 ∧ e.size ≤ p - 1) hy
        rw [List.length_map] at ly
        have g1 := maxDep_le (l := xs) fun e h => (hxs e h).2.1
        have g2 := sizes_le (l := xs) fun e h => (hxs e h).2.2
        have g3 : xs.length * (p - 1) ≤ 6 * (p - 1) := Nat.mul_le_mul_right _ (by omega)
        refine start (d' := (St.make t xs).D) (k2.trans k3) ⟨.make t xs, rfl, by simp only [St.ok]; exact ⟨⟨_, List.getElem?_eq_getElem ht, by omega⟩, fun e h => (hxs e h).1⟩, by simp only [St.dep]; omega, by simp only [St.size]; omega⟩ _ ?_ rfl
        refine sSeq_nx (sIf_false t0 rfl) (sSeq_rt (sIf_true (st' := st1) ?_ ?_))
        · obtain ⟨c5, c6⟩ := c1
          simp [l5, gt_len, c5, c6, ltD]
        refine sSeq_nx (sSet_ok (d := .int (t : Int)) (st' := st2) (by simp [l5, e2]) rfl) (sRet_ok ?_)
        show cTup [cC (.str "make"), cVar 7, cS1 tupS (cComp (cItr (cOp2 getD (cOp2 getD (cOp2 getD (cVar 1) (cC (.int 5))) (cVar 7)) (cC (.int 3)))) (.one 9) tYesD (cCall (m__law_e 12) [(cVar 0), (cVar 1), (cVar 2), (cOp2 min2D (cC (.int 3)) (cOp2 subD (cVar 3) (cC (.int 1))))]) [9])] [some (.loc b), some w, some (.tup (es.map natD)), some (.int (md : Int)), some (.int v), none, none, some (.int (t : Int)), none, none] st2 = _
        rw [cTup_ap]
        simp only [cArgs_cons, cArgs_nil, cC_ap, cVar_ap, List.getElem?_cons_succ, List.getElem?_cons_zero, R.bind_ok, cS1_ap, e3, tupS, St.D]
      have t1 : (tAndD (cTst (cOp2 ltD (cVar 4) (cC (.int 4)))) (cTst (cOp2 gtD (cB1 lenD (cOp2 getD (cVar 1) (cC (.int 5)))) (cC (.int 0))))) [some (.loc b), some w, some (.tup (es.map natD)), some (.int (md : Int)), some (.int v), none, none, none, none, none] st1 = .ok false st1 := by
        by_cases hv : v < 4
        · have : ¬ 0 < d.tabs.length := fun z => c1 ⟨hv, z⟩
          simp [hv, l5, gt_len, this, ltD]
        · simp [hv, ltD]
      -- drop
      by_cases c2 : v = 4 ∧ 0 < es.length
      · obtain ⟨kk, st2, e2, k2, p2, q2⟩ := draw_pos (many := (es.length : Int)) b1 (by omega) (by omega)
        obtain ⟨k, rfl⟩ := nat_of p2
        refine start (d' := (St.drop k).D) k2 ⟨.drop k, rfl, by simp only [St.ok]; omega, by simp only [St.dep]; omega, by simp only [St.size]; omega⟩ _ ?_ rfl
        refine sSeq_nx (sIf_false t0 rfl) (sSeq_nx (sIf_false t1 rfl) (sSeq_rt (sIf_true (st' := st1) ?_ (sRet_ok (by simp [le, e2, St.D])))))
        obtain ⟨c5, c6⟩ := c2
        simp [le, gt_len, c5, c6]
      have t2 : (tAndD (cTst (cOp2 eqD (cVar 4) (cC (.int 4)))) (cTst (cOp2 gtD (cB1 lenD (cVar 2)) (cC (.int 0))))) [some (.loc b), some w, some (.tup (es.map natD)), some (.int (md : Int)), some (.int v), none, none, none, none, none] st1 = .ok false st1 := by
        by_cases hv : v = 4
        · have : ¬ 0 < es.length := fun z => c2 ⟨hv, z⟩
          simp [hv, le, gt_len, this]
        · simp [hv]
      -- tell
      by_cases c3 : v = 5 ∧ 0 < d.nt
      · obtain ⟨kk, st2, e2, k2, p2, q2⟩ := draw_pos (many := (d.nt : Int)) b1 (by omega) (by have := hd.nt; omega)
        obtain ⟨m, rfl⟩ := nat_of p2
        obtain ⟨x, st3, e3, k3, e, rfl, o1, o2, o3⟩ := sub st2 k2.bag
        refine start (d' := (St.tell m e).D) (k2.trans k3) ⟨.tell m e, rfl, by simp only [St.ok]; exact ⟨by omega, o1⟩, by simp only [St.dep]; omega, by simp only [St.size]; omega⟩ _ ?_ rfl
        refine sSeq_nx (sIf_false t0 rfl) (sSeq_nx (sIf_false t1 rfl) (sSeq_nx (sIf_false t2 rfl) (sSeq_rt (sIf_true (st' := st1) ?_ (sRet_ok (by simp [l6, e2, e3, St.D]))))))
        obtain ⟨c5, c6⟩ := c3
        simp [l6, gt_len, c5, c6]
      have t3 : (tAndD (cTst (cOp2 eqD (cVar 4) (cC (.int 5)))) (cTst (cOp2 gtD (cB1 lenD (cOp2 getD (cVar 1) (cC (.int 6)))) (cC (.int 0))))) [some (.loc b), some w, some (.tup (es.map natD)), some (.int (md : Int)), some (.int v), none, none, none, none, none] st1 = .ok false st1 := by
        by_cases hv : v = 5
        · have : ¬ 0 < d.nt := fun z => c3 ⟨hv, z⟩
          simp [hv, l6, gt_len, this]
        · simp [hv]
      -- if
      by_cases c4 : v = 6 ∧ 2 < md
      · obtain ⟨x, st2, e2, k2, e, rfl, o1, o2, o3⟩ := sub st1 b1
        obtain ⟨x, st3, e3, k3, ba, rfl, u1, u2, u3, u4⟩ := ihb (md - 1) 3 st2 k2.bag (by omega) (by omega) (by omega) (by omega) (by omega)
        obtain ⟨x, st4, e4, k4, bb, rfl, v1, v2, v3, v4⟩ := ihb (md - 1) 2 st3 k3.bag (by omega) (by omega) (by omega) (by omega) (by omega)
        rw [hq] at u3 v3
        have em : ((md - 1 : Nat) : Int) = (md : Int) - 1 := by omega
        rw [em] at e3 e4
        refine start (d' := (St.iff e ba bb).D) ((k2.trans k3).trans k4) ⟨.iff e ba bb, rfl, by simp only [St.ok]; exact ⟨o1, u1, v1⟩, by simp only [St.dep]; omega, by simp only [St.size]; omega⟩ _ ?_ rfl
        refine sSeq_nx (sIf_false t0 rfl) (sSeq_nx (sIf_false t1 rfl) (sSeq_nx (sIf_false t2 rfl) (sSeq_nx (sIf_false t3 rfl) (sSeq_rt (sIf_true (st' := st1) ?_ ?_)))))
        · obtain ⟨c5, c6⟩ := c4
          have : (2 : Int) < md := by omega
          simp [c5, this, gtD]
        refine sSeq_nx (sSet_ok (d := e.D) (st' := st2) (by simp [e2]) rfl) (sRet_ok ?_)
        have e3 : r__law_s n 1 [.loc b, w, .tup (es.map natD), .int ((md : Int) - 1), .int 3] st2 = .ok (.tup (bodyD ba)) st3 := e3
        have e4 : r__law_s n 1 [.loc b, w, .tup (es.map natD), .int ((md : Int) - 1), .int 2] st3 = .ok (.tup (bodyD bb)) st4 := e4
        simp [e3, e4, St.D]
      have t4 : (tAndD (cTst (cOp2 eqD (cVar 4) (cC (.int 6)))) (cTst (cOp2 gtD (cVar 3) (cC (.int 2))))) [some (.loc b), some w, some (.tup (es.map natD)), some (.int (md : Int)), some (.int v), none, none, none, none, none] st1 = .ok false st1 := by
        by_cases hv : v = 6
        · have : ¬ (2 : Int) < md := fun z => c4 ⟨hv, by omega⟩
          simp [hv, this, gtD]
        · simp [hv]
      -- set of a value
      by_cases c5 : 0 < d.nv
      · obtain ⟨kk, st2, e2, k2, p2, q2⟩ := draw_pos (many := (d.nv : Int)) b1 (by omega) (by have := hd.nv; omega)
        obtain ⟨m, rfl⟩ := nat_of p2
        obtain ⟨x, st3, e3, k3, e, rfl, o1, o2, o3⟩ := sub st2 k2.bag
        refine start (d' := (St.set (.val m) e).D) (k2.trans k3) ⟨.set (.val m) e, rfl, by simp only [St.ok, Pl.ok]; exact ⟨by omega, o1⟩, by simp only [St.dep]; omega, by simp only [St.size]; omega⟩ _ ?_ rfl
        refine sSeq_nx (sIf_false t0 rfl) (sSeq_nx (sIf_false t1 rfl) (sSeq_nx (sIf_false t2 rfl) (sSeq_nx (sIf_false t3 rfl) (sSeq_nx (sIf_false t4 rfl) (sSeq_rt (sIf_true (st' := st1) (by simp [l4, gt_len, c5]) (sRet_ok ?_)))))))
        simp [l4, e2, e3, St.D, Pl.D]
      obtain ⟨x, st2, e2, k2, e, rfl, o1, o2, o3⟩ := leaf_ok hd hw he hz b1
      refine start (d' := (St.iff e [] []).D) k2 ⟨.iff e [] [], rfl, by simp only [St.ok, bodyOk]; exact ⟨o1, trivial, trivial⟩, by simp only [St.dep, bodyDep]; omega, by simp only [St.size, bodySize]; omega⟩ _ ?_ rfl
      refine sSeq_nx (sIf_false t0 rfl) (sSeq_nx (sIf_false t1 rfl) (sSeq_nx (sIf_false t2 rfl) (sSeq_nx (sIf_false t3 rfl) (sSeq_nx (sIf_false t4 rfl) (sSeq_nx (sIf_false (st' := st1) (by simp [l4, gt_len, c5]) rfl) (sRet_ok ?_))))))
      simp [e2, St.D, bodyD]
    · obtain ⟨v, st1, e1, k1, p1, q1⟩ := draw_pos (many := (many : Int)) hb (by omega) (by omega)
      obtain ⟨m, rfl⟩ := nat_of p1
      obtain ⟨ys, st2, e2, k2, ly, hy⟩ := ccomp_drw (b := b) (i := 5) (it := cRng1 (cCall m__law_draw [(cVar 0), (cVar 4)])) (te := cCall (r__law_s n 0) [(cVar 0), (cVar 1), (cVar 2), (cVar 3)]) (ρ := [some (.loc b), some w, some (.tup (es.map natD)), some (.int (md : Int)), some (.int (many : Int)), none]) (Q := IsSt d es md (4 ^ md)) (xs := rngD 0 m) (s0 := st) (st := st1) (cRng1_ok (by simp [e1]) (by omega)) k1 (by rw [rngD_len]; omega) (fun x hx s ks => by
        have := ihs md s ks.bag h1 h12 (by omega)
        simpa using this)
      obtain ⟨bd, rfl, hbd⟩ := choose_list (f := St.D) (P := fun s => s.ok d es ∧ s.dep ≤ md ∧ s.size ≤ 4 ^ md) hy
      rw [List.length_map, rngD_len] at ly
      have g1 := bodyDep_le (l := bd) fun s h => (hbd s h).2.1
      have g2 := bodySize_le (l := bd) fun s h => (hbd s h).2.2
      have g3 : bd.length * 4 ^ md ≤ (many - 1) * 4 ^ md := Nat.mul_le_mul_right _ (by omega)
      show Drw b st (mDef 6 (b__law_b (r__law_s n)) _ st) _
      refine drw_of (ρ0 := [some (.loc b), some w, some (.tup (es.map natD)), some (.int (md : Int)), some (.int (many : Int)), none]) rfl hb k2 (d := .tup (bodyD bd)) ⟨bd, rfl, bodyOk_iff.mpr fun s h => (hbd s h).1, g1, Nat.le_trans g2 g3, by omega⟩ ?_
      unfold b__law_b
      refine sRet_ok ?_
      rw [cS1_ap, e2, R.bind_ok, bodyD_map]; rfl
end
end PMl

set_option Elab.async false
set_option linter.all false
set_option maxRecDepth 100000
set_option maxHeartbeats 4000000
/-! the plain law of k95, 22: a drawn world. -/
namespace PMl
open PySem PM L2
def WorldOk (d : Dims) (v : D) : Prop := WAt v d ∧ ∃ rs : List Rl, (∀ s, getD v (.int 8) s = .ok (.tup (rs.map Rl.D)) s) ∧ (∀ r ∈ rs, r.ok d) ∧ rs.length ≤ 20
theorem rk_ok (k : Int) (h0 : 0 ≤ k) (h1 : k < 8) : ∃ s : Str, ∀ st, (strD (.int k) st).bind (fun y st => addD (.str "r") y st) = .ok (.str s) st := by
  have : k = 0 ∨ k = 1 ∨ k = 2 ∨ k = 3 ∨ k = 4 ∨ k = 5 ∨ k = 6 ∨ k = 7 := by omega
  have e : ∀ (k : Int) (x : Str), k.natAbs.log2 < 1920 → x = (toString k : String) → x.length ≤ 100 → ∀ st, (strD (.int k) st).bind (fun y st => addD (.str "r") y st) = .ok (.str ((Str.ofString "r") ++ x)) st := fun k x h1 h2 h3 st => by
    subst h2
    simp only [strD]
    rw [if_pos h1, R.bind_ok]
    simp only [addD]
    rw [if_pos (Nat.le_trans (Nat.add_le_add (show (Str.ofString "r").length ≤ 1 by decide +kernel) h3) (by decide))]
  rcases this with rfl | rfl | rfl | rfl | rfl | rfl | rfl | rfl <;> exact ⟨_, e _ _ (by decide) rfl (by decide +kernel)⟩
theorem add72 (a b c : D) (ks vs ts tl : List D) (x y : D) (st : Sto) : addD (.tup [a, b, c, .tup ks, .tup vs, .tup ts, .tup tl]) (.tup [x, y]) st = .ok (.tup [a, b, c, .tup ks, .tup vs, .tup ts, .tup tl, x, y]) st := by
  simp only [addD]
  rw [if_pos (by show 9 ≤ sizeLine; decide)]; rfl
section
variable {b : Nat} {st : Sto} {lg : Int}
theorem world_ok (hb : Bg b st) (hl : lg = 0 ∨ lg = 1) : ∃ d : Dims, Drw b st (m__law_world [.loc b, .int lg] st) (WorldOk d) := by
  obtain ⟨d, hd, w, st1, e1, k1, hdw⟩ := declared_ok hb hl
  have hw := decl_at hd hdw
  refine ⟨d, ?_⟩
  obtain ⟨l3, l4, l5, l6⟩ := wat_len hw
  obtain ⟨m1, hm1, em1⟩ := pick2 4 7 hl
  obtain ⟨v1, st2, e2, k2, p2, q2⟩ := draw_pos (many := m1) k1.bag (by omega) (by omega)
  obtain ⟨n1, rfl⟩ := nat_of p2
  obtain ⟨m2, hm2, em2⟩ := pick2 5 9 hl
  obtain ⟨m2n, rfl⟩ : ∃ n : Nat, m2 = n := nat_of (by omega)
  obtain ⟨sv, st3, e3, k3, bd0, rfl, _⟩ := (sb_ok hd hw (es := []) (fun t h => by cases h) (by simp) 30).2 (2 + n1) m2n st2 k2.bag (by omega) (by omega) (by omega) (by omega) (by omega)
  have e3 : m__law_b 30 [.loc b, w, .tup [], .int (2 + (n1 : Int)), .int (m2n : Int)] st2 = .ok (.tup (bodyD bd0)) st3 := by
    have : ((2 + n1 : Nat) : Int) = 2 + (n1 : Int) := by omega
    rw [← this]; exact e3
  -- rules, names
  have k4 : Kp b st3 (st3 ++ [.lst []]) := Kp.app k3.bag
  obtain ⟨v3, st4, e4, k5, p4, q4⟩ := draw_pos (many := 12) k4.bag (by decide) (by decide)
  obtain ⟨n, g, ss, e5, hn, l12, _⟩ := names_ok st4 v3
  have k6 : Kp b st4 (st4 ++ g) := Kp.app k5.bag
  obtain ⟨ys, st5', e6, k7, ly, hy⟩ := ccomp_drw (b := b) (i := 7) (it := cRng1 (cC (.int 8))) (te := cOp2 addD (cC (.str "r")) (cB1 strD (cVar 7))) (ρ := [some (.loc b), some (.int lg), some w, some (.int (2 + (n1 : Int))), some (.tup (bodyD bd0)), some (.loc st3.length), none, none, none, none, none]) (Q := fun y => ∃ s : Str, y = .str s) (xs := rngD 0 8) (s0 := st4 ++ g) (st := st4 ++ g) (cRng1_ok (n := 8) rfl (by decide)) (Kp.refl k6.bag) (by rw [rngD_len]; decide) (fun x hx s ks => by
    obtain ⟨k, rfl, r0, r1⟩ := mem_rng hx
    obtain ⟨q, hq⟩ := rk_ok k r0 (by omega)
    exact ⟨.str q, s, by have := hq s; simpa using this, Kp.refl ks.bag, q, rfl⟩)
  obtain ⟨rs0, rfl, _⟩ := choose_list (f := D.str) (P := fun _ => True) (fun y h => by obtain ⟨s, e⟩ := hy y h; exact ⟨s, e, trivial⟩)
  rw [List.length_map, rngD_len] at ly
  have hn5 : st5'[n]? = some (.lst (ss.map D.str)) := k7.eq _ _ hn (fun z => by
    subst z
    obtain ⟨x, y, z, c, hx⟩ := k6.bag
    rw [hx] at hn
    simp [bagO] at hn
    have := congrArg List.length hn
    simp at this; omega)
  obtain ⟨st5, hst5⟩ : ∃ s, s = st5' ++ [O.lst ((ss ++ rs0).map D.str)] := ⟨_, rfl⟩
  have kA : Kp b st3 st5 := by rw [hst5]; exact (((k4.trans k5).trans k6).trans k7).app'
  have hb5 : b < st5'.length := Bg.lt k7.bag
  have hb3 : b < st3.length := Bg.lt k3.bag
  have hle : st3.length < st5'.length := by
    have := k5.le; have := k6.le; have := k7.le
    simp at this
    have h1 : (st3 ++ [O.lst []]).length = st3.length + 1 := by simp
    have := k5.le
    omega
  have hN : st5[st5'.length]? = some (.lst ((ss ++ rs0).map D.str)) := by rw [hst5]; exact get_new
  have hR : st5[st3.length]? = some (.lst []) := by
    have h1 : (st3 ++ [O.lst []])[st3.length]? = some (.lst []) := get_new
    have h2 := k7.eq _ _ (k6.eq _ _ (k5.eq _ _ h1 (by omega)) (by omega)) (by omega)
    rw [hst5]; exact get_app h2
  -- the loop over the rules
  obtain ⟨m3, hm3, em3⟩ := pick2 5 21 hl
  obtain ⟨v6, st6, e7, k8, p8, q8⟩ := draw_pos (many := m3) kA.bag (by omega) (by omega)
  obtain ⟨n6, rfl⟩ := nat_of p8
  have hN6 := k8.eq _ _ hN (by omega)
  have hR6 := k8.eq _ _ hR (by omega)
  obtain ⟨ρ7, st7, e8, y7, y8, y9, hρ, k9, hN7, rl, h7, l7, hrl⟩ := forGo_inv (chk := fun _ => True) (g := gN 7) (body := (sSeq (sSet 8 (cTup []))
  (sSeq (sIf (cTst (cOp2 gtD (cB1 lenD (cOp2 getD (cVar 2) (cC (.int 5)))) (cC (.int 0)))) (sSet 8 (cS1 tupS (cComp (cRng1 (cCall m__law_draw [(cVar 0), (cC (.int 3))])) (.one 10) tYesD (cCall m__law_draw [(cVar 0), (cB1 lenD (cOp2 getD (cVar 2) (cC (.int 5))))]) [10]))) sNext)
  (sSeq (sSet 9 (cC .non))
  (sSeq (sIf (cTst (cOp2 eqD (cCall m__law_draw [(cVar 0), (cC (.int 2))]) (cC (.int 0)))) (sSet 9 (cCall (m__law_e 12) [(cVar 0), (cVar 2), (cVar 8), (cOp2 min2D (cC (.int 4)) (cVar 3))])) sNext)
  (sExp (cApp (cVar 5) (cTup [(cC (.str "rule")), (cOp2 getD (cVar 6) (cVar 7)), (cVar 8), (cVar 9), (cCall (m__law_b 30) [(cVar 0), (cVar 2), (cVar 8), (cVar 3), (cC (.int 4))])]))))))))
    (fun k ρ s => ∃ y7 y8 y9, ρ = [some (.loc b), some (.int lg), some w, some (.int (2 + (n1 : Int))), some (.tup (bodyD bd0)), some (.loc st3.length), some (.loc st5'.length), y7, y8, y9, none] ∧ Kp b st3 s ∧ s[st5'.length]? = some (.lst ((ss ++ rs0).map D.str)) ∧ ∃ l : List Rl, s[st3.length]? = some (.lst (l.map Rl.D)) ∧ l.length = k ∧ ∀ r ∈ l, r.ok d) (rngD 0 n6) 0 (fun _ _ _ _ => trivial) (fun i x hx ρ s ⟨y7, y8, y9, hρ, ks, hNs, l, hls, ll, hall⟩ => by
    subst hρ
    obtain ⟨k, rfl, r0, r1⟩ := mem_rng (List.mem_of_getElem? hx)
    refine ⟨_, rfl, ?_⟩
    -- the tables that it is for
    have eaches : ∃ es s1, EsOk d es ∧ es.length ≤ 2 ∧ Kp b s s1 ∧ (sIf (cTst (cOp2 gtD (cB1 lenD (cOp2 getD (cVar 2) (cC (.int 5)))) (cC (.int 0)))) (sSet 8 (cS1 tupS (cComp (cRng1 (cCall m__law_draw [(cVar 0), (cC (.int 3))])) (.one 10) tYesD (cCall m__law_draw [(cVar 0), (cB1 lenD (cOp2 getD (cVar 2) (cC (.int 5))))]) [10]))) sNext) [some (.loc b), some (.int lg), some w, some (.int (2 + (n1 : Int))), some (.tup (bodyD bd0)), some (.loc st3.length), some (.loc st5'.length), some (.int k), some (.tup []), y9, none] s
        = .nx [some (.loc b), some (.int lg), some w, some (.int (2 + (n1 : Int))), some (.tup (bodyD bd0)), some (.loc st3.length), some (.loc st5'.length), some (.int k), some (.tup (es.map natD)), y9, none] s1 := by
      by_cases ht : 0 < d.tabs.length
      · obtain ⟨va, sa, ea, ka, pa, qa⟩ := draw_pos (many := 3) ks.bag (by decide) (by decide)
        obtain ⟨na, rfl⟩ := nat_of pa
        obtain ⟨ys, sb, eb, kb, lb, hb'⟩ := ccomp_drw (b := b) (i := 10) (it := cRng1 (cCall m__law_draw [(cVar 0), (cC (.int 3))])) (te := cCall m__law_draw [(cVar 0), (cB1 lenD (cOp2 getD (cVar 2) (cC (.int 5))))]) (ρ := [some (.loc b), some (.int lg), some w, some (.int (2 + (n1 : Int))), some (.tup (bodyD bd0)), some (.loc st3.length), some (.loc st5'.length), some (.int k), some (.tup []), y9, none]) (Q := fun y => ∃ t : Nat, y = natD t ∧ t < d.tabs.length) (xs := rngD 0 na) (s0 := s) (st := sa) (cRng1_ok (by simp [ea]) (by omega)) ka (by rw [rngD_len]; omega) (fun x hx s ks => by
          obtain ⟨v, s', e, k', p', q'⟩ := draw_pos (many := (d.tabs.length : Int)) ks.bag (by omega) (by have := hd.nf; omega)
          obtain ⟨t, rfl⟩ := nat_of p'
          exact ⟨.int t, s', by simp [l5, e], k', t, rfl, by omega⟩)
        obtain ⟨es, rfl, hes⟩ := choose_list (f := natD) (P := fun t => t < d.tabs.length) hb'
        rw [List.length_map, rngD_len] at lb
        refine ⟨es, sb, hes, by omega, kb, sIf_true (st' := s) (by simp [l5, gt_len, ht]) (sSet_ok (d := .tup (es.map natD)) ?_ rfl)⟩
        rw [cS1_ap, eb, R.bind_ok]; rfl
      · exact ⟨[], s, (fun t h => by cases h), by simp, Kp.refl ks.bag, sIf_false (st' := s) (by simp [l5, gt_len, ht]) rfl⟩
    obtain ⟨es, s1, hes, les, ka, ea⟩ := eaches
    obtain ⟨vb, s2, eb, kb, pb, qb⟩ := draw_pos (many := 2) ka.bag (by decide) (by decide)
    -- the condition
    have cnd : ∃ (c : Option Ex) (s3 : Sto), (∀ e, c = some e → e.ok d es ∧ e.dep ≤ 15) ∧ condSize c ≤ 20 ∧ Kp b s1 s3 ∧ (sIf (cTst (cOp2 eqD (cCall m__law_draw [(cVar 0), (cC (.int 2))]) (cC (.int 0)))) (sSet 9 (cCall (m__law_e 12) [(cVar 0), (cVar 2), (cVar 8), (cOp2 min2D (cC (.int 4)) (cVar 3))])) sNext) [some (.loc b), some (.int lg), some w, some (.int (2 + (n1 : Int))), some (.tup (bodyD bd0)), some (.loc st3.length), some (.loc st5'.length), some (.int k), some (.tup (es.map natD)), some .non, none] s1
        = .nx [some (.loc b), some (.int lg), some w, some (.int (2 + (n1 : Int))), some (.tup (bodyD bd0)), some (.loc st3.length), some (.loc st5'.length), some (.int k), some (.tup (es.map natD)), some (condD c), none] s3 := by
      by_cases hv : vb = 0
      · obtain ⟨x, s3, e3, k3, e, rfl, o1, o2, o3⟩ := e_ok hd hw hes (by omega) 12 4 (min 4 (2 + (n1 : Int))) s2 kb.bag (by omega) (by omega) (by omega)
        refine ⟨some e, s3, (fun e' h => by cases h; exact ⟨o1, by omega⟩), by simp only [condSize]; have : 2 ^ 4 = 16 := rfl; omega, kb.trans k3, sIf_true (st' := s2) (by simp [eb, hv]) (sSet_ok (d := e.D) ?_ rfl)⟩
        simp [min2D, e3]
      · exact ⟨none, s2, (fun e' h => by cases h), by simp [condSize], kb, sIf_false (st' := s2) (by simp [eb, hv]) rfl⟩
    obtain ⟨c, s3, hc1, hc2, kc, ec⟩ := cnd
    obtain ⟨x, s4, ed, kd, bd, rfl, u1, u2, u3, u4⟩ := (sb_ok hd hw hes (by omega) 30).2 (2 + n1) 4 s3 kc.bag (by omega) (by omega) (by omega) (by omega) (by omega)
    have ed : m__law_b 30 [.loc b, w, .tup (es.map natD), .int (2 + (n1 : Int)), .int 4] s3 = .ok (.tup (bodyD bd)) s4 := by
      have : ((2 + n1 : Nat) : Int) = 2 + (n1 : Int) := by omega
      rw [← this]; exact ed
    have kall := ((ks.trans ka).trans kc).trans kd
    have hN4 := kd.eq _ _ (kc.eq _ _ (ka.eq _ _ hNs (by omega)) (by omega)) (by omega)
    have hR4 := kd.eq _ _ (kc.eq _ _ (ka.eq _ _ hls (by omega)) (by omega)) (by omega)
    have hN3 := kc.eq _ _ (ka.eq _ _ hNs (by omega)) (by omega)
    obtain ⟨nx, hnx, enx⟩ := atD_in (xs := (ss ++ rs0).map D.str) (i := k) s3 r0 (by simp; omega)
    have p8 : 4 ^ (2 + n1) ≤ 4 ^ 8 := Nat.pow_le_pow_right (by decide) (by omega)
    have p8' : 4 ^ 8 = 65536 := rfl
    have hll : l.length ≤ 100 := by have := (List.getElem?_eq_some_iff.mp hx).1; rw [rngD_len] at this; omega
    have ha := appD_at (y := (Rl.mk nx es c bd).D) hR4 (by simp; omega)
    refine ⟨[some (.loc b), some (.int lg), some w, some (.int (2 + (n1 : Int))), some (.tup (bodyD bd0)), some (.loc st3.length), some (.loc st5'.length), some (.int k), some (.tup (es.map natD)), some (condD c), none], s4.set st3.length (.lst (l.map Rl.D ++ [(Rl.mk nx es c bd).D])), .inl ?_, some (.int k), some (.tup (es.map natD)), some (condD c), rfl, kall.new (Nat.le_refl _) (by omega), by rw [get_set_ne (by omega)]; exact hN4, l ++ [⟨nx, es, c, bd⟩], by rw [get_set_eq hR4]; simp, by simp; omega, fun r hr => ?_⟩
    · refine sSeq_nx (ρ' := [some (.loc b), some (.int lg), some w, some (.int (2 + (n1 : Int))), some (.tup (bodyD bd0)), some (.loc st3.length), some (.loc st5'.length), some (.int k), some (.tup []), y9, none]) (st' := s) (by simp) ?_
      refine sSeq_nx ea ?_
      refine sSeq_nx (ρ' := [some (.loc b), some (.int lg), some w, some (.int (2 + (n1 : Int))), some (.tup (bodyD bd0)), some (.loc st3.length), some (.loc st5'.length), some (.int k), some (.tup (es.map natD)), some .non, none]) (st' := s1) (by simp) ?_
      refine sSeq_nx ec ?_
      refine sExp_ok (d := .non) ?_
      have hR3 := kc.eq _ _ (ka.eq _ _ hls (by omega)) (by omega)
      exact app_ok rfl hR3 (y := (Rl.mk nx es c bd).D) (by simp [-List.map_append, getD_lst hN3, enx, ed, Rl.D]) ha
    · rcases List.mem_append.mp hr with h | h
      · exact hall r h
      · rw [List.mem_singleton] at h
        subst h
        exact ⟨hes, hc1, ⟨u1, by show bodyDep bd ≤ 15; omega⟩, by unfold Rl.size; show es.length + condSize c + bodySize bd ≤ 1000000; omega⟩)
    [some (.loc b), some (.int lg), some w, some (.int (2 + (n1 : Int))), some (.tup (bodyD bd0)), some (.loc st3.length), some (.loc st5'.length), none, none, none, none] st6 ⟨none, none, none, rfl, kA.trans k8, hN6, [], hR6, rfl, by simp⟩
  subst hρ
  rw [rngD_len, Nat.zero_add] at l7
  obtain ⟨nmx, se, ks, vs, ts, tl, rfl, w1, w2, w3, w4⟩ := hdw
  refine drw_of (ρ0 := [some (.loc b), some (.int lg), none, none, none, none, none, none, none, none, none]) rfl hb ((((k1.trans k2).trans k3)).trans k9) (d := .tup [.str "world", .str nmx, .int se, .tup ks, .tup vs, .tup ts, .tup tl, .tup (bodyD bd0), .tup (rl.map Rl.D)])
    ⟨⟨⟨_, _, _, ks, vs, ts, tl, _, rfl, w1, w2, w3, w4⟩, hw.sm⟩, rl, fun s => by simp, hrl, by omega⟩ ?_
  unfold b__law_world
  refine sSeq_nx (sSet_ok (st' := st1) (by simp [e1]; rfl) rfl) ?_
  refine sSeq_nx (sSet_ok (d := .int (2 + (n1 : Int))) (st' := st2) (by simp [em1, e2]) rfl) ?_
  refine sSeq_nx (sSet_ok (d := .tup (bodyD bd0)) (st' := st3) (by simp [em2, e3]) rfl) ?_
  refine sSeq_nx (sSet_ok (d := .loc st3.length) (st' := st3 ++ [.lst []]) (by simp) rfl) ?_
  refine sSeq_nx (sSet_ok (d := .loc st5'.length) (st' := st5) ?_ rfl) ?_
  · show cNew (cCatE (cCall m__law_names [(cCall m__law_draw [(cVar 0), (cC (.int 12))])]) (cComp (cRng1 (cC (.int 8))) (.one 7) tYesD (cOp2 addD (cC (.str "r")) (cB1 strD (cVar 7))) [7])) [some (.loc b), some (.int lg), some _, some (.int (2 + (n1 : Int))), some (.tup (bodyD bd0)), some (.loc st3.length), none, none, none, none, none] (st3 ++ [.lst []]) = _
    have ca : cCall m__law_names [(cCall m__law_draw [(cVar 0), (cC (.int 12))])] [some (.loc b), some (.int lg), some (.tup [.str "world", .str nmx, .int se, .tup ks, .tup vs, .tup ts, .tup tl]), some (.int (2 + (n1 : Int))), some (.tup (bodyD bd0)), some (.loc st3.length), none, none, none, none, none] (st3 ++ [.lst []]) = .ok (.loc n) (st4 ++ g) := by simp [e4, e5]
    rw [cNew_ap, cCatE_ap, ca, R.bind_ok, e6, R.bind_ok, lstD_at hn5, R.bind_ok]
    unfold catL
    rw [if_pos (by simp only [List.length_map]; exact Nat.le_trans (by omega) (show 100 ≤ sizeLine by decide)), R.bind_ok, ← List.map_append, hst5]
  refine sSeq_nx (sFor_ok (b := ⟨fun _ => True, rngD 0 n6⟩) (st' := st6) (cRng1_ok (by simp [em3, e7]) (by omega)) e8) ?_
  refine sRet_ok ?_
  simp [seqD, tupS, h7, add72]
end
end PMl

set_option Elab.async false
set_option linter.all false
set_option maxRecDepth 100000
set_option maxHeartbeats 4000000
/-! the plain law of k95, 23: the law. -/
namespace PMl
open PySem PM L2
section
open Classical
noncomputable def ansOf (d : Dims) (r : Rl) : Ans := ⟨ordL r.lookL, ordL (r.chgL d.tabs), decide (("draw" : Str) ∈ r.nodes.map Nd.kind), decide (("tell" : Str) ∈ r.nodes.map Nd.kind), sortI ((r.knobsL d.nk).map fun (n : Nat) => (n : Int))⟩
theorem ansOf_ok {d : Dims} {r : Rl} (hd : d.nk ≤ 1000) (h : r.ok d) : (ansOf d r).ok := by
  have z := rl_sz h
  have a := ordL_len r.lookL
  have b := ordL_len (r.chgL d.tabs)
  have c : (sortI ((r.knobsL d.nk).map fun (n : Nat) => (n : Int))).length ≤ d.nk := by
    unfold sortI
    rw [List.length_mergeSort, List.length_map]
    have := List.length_filter_le (fun b => decide (b ∈ r.nodes.flatMap nm)) (List.range d.nk)
    rw [List.length_range] at this
    exact this
  exact ⟨Nat.le_trans a z.look, Nat.le_trans b z.chg, by show (sortI _).length ≤ _; omega⟩
variable {d : Dims} {w : D} {rs : List Rl}
theorem rule_prog (st : Sto) (hw : WAt w d) (h8 : ∀ s, getD w (.int 8) s = .ok (.tup (rs.map Rl.D)) s) (ho : ∀ r ∈ rs, r.ok d) {j : Nat} {r : Rl} (hj : rs[j]? = some r) : m_touches [w, .int (j : Int)] st = .ok (ansOf d r).D st := by
  have hr := ho r (List.mem_of_getElem? hj)
  rw [touches_ok st hw h8 (by rw [List.getElem?_map, hj]; rfl) hr, same_ok hr]
  rfl
theorem rule_law (st : Sto) (hw : WAt w d) (h8 : ∀ s, getD w (.int 8) s = .ok (.tup (rs.map Rl.D)) s) (ho : ∀ r ∈ rs, r.ok d) {j : Nat} {r : Rl} (hj : rs[j]? = some r) : m__law_touches [w, .int (j : Int)] st = .ok (ansOf d r).D st := by
  have hr := ho r (List.mem_of_getElem? hj)
  rw [ltouches_ok st hw h8 (by rw [List.getElem?_map, hj]; rfl) hr (rl_sz hr)]
  rfl
theorem neD_str (i j : Str) (st : Sto) : neD (.str i) (.str j) st = .ok (.bl (!decide (i = j))) st := rfl
theorem bag_new (st : Sto) (ns : List Int) (k : Int) (h0 : 0 ≤ k) (h1 : k < 100) : ∃ c, m__law_bag [.con (ns.map .int), .int k] st = .ok (.loc st.length) (st ++ [bagO 0 (233 + 48611 * k) 0 c]) := by
  have hm : ∀ s, mulD (.int 48611) (.int k) s = .ok (.int (48611 * k)) s := fun s => mulD_int s (by omega)
  have hl : ∀ s, lenD (.con (ns.map .int)) s = .ok (.int (ns.length : Int)) s := fun s => by simp [lenD]
  by_cases hk : k < ns.length
  · obtain ⟨n, rfl⟩ := nat_of h0
    have hn : n < ns.length := by omega
    have hg : ∀ s, getD (.con (ns.map .int)) (.int (n : Int)) s = .ok (.int ns[n]) s := fun s => by
      show atD (ns.map .int) (.int (n : Int)) s = _
      exact atD_nat s (by rw [List.getElem?_map, List.getElem?_eq_getElem hn]; rfl)
    refine ⟨ns[n], def_loc (ρ0 := [some (.con (ns.map .int)), some (.int (n : Int)), none]) rfl ?_ (Nat.le_refl _)⟩
    unfold b__law_bag
    refine sSeq_nx (ρ' := [some (.con (ns.map .int)), some (.int (n : Int)), some (.int 0)]) (st' := st) (by simp) ?_
    refine sSeq_nx (ρ' := [some (.con (ns.map .int)), some (.int (n : Int)), some (.int ns[n])]) (st' := st) (sIf_true (st' := st) ?_ (by simp [hg])) ?_
    · simp only [cTst_ap, cOp2_ap, cVar_ap, List.getElem?_cons_succ, List.getElem?_cons_zero, R.bind_ok, cB1_ap, hl]
      show R.ok (decide ((n : Int) < ns.length)) st = _
      rw [decide_eq_true hk]
    · simp [hm, bagO]
  · refine ⟨0, def_loc (ρ0 := [some (.con (ns.map .int)), some (.int k), none]) rfl ?_ (Nat.le_refl _)⟩
    unfold b__law_bag
    refine sSeq_nx (ρ' := [some (.con (ns.map .int)), some (.int k), some (.int 0)]) (st' := st) (by simp) ?_
    refine sSeq_nx (ρ' := [some (.con (ns.map .int)), some (.int k), some (.int 0)]) (st' := st) (sIf_false (st' := st) ?_ (by simp)) ?_
    · simp only [cTst_ap, cOp2_ap, cVar_ap, List.getElem?_cons_succ, List.getElem?_cons_zero, R.bind_ok, cB1_ap, hl]
      show R.ok (decide (k < ns.length)) st = _
      rw [decide_eq_false hk]
    · simp [hm, bagO]
theorem loop_j {b : Nat} {x0 x1 : D} {y4 y5 y6 y7 : Option D} {n : Nat} (st : Sto) (hw : WAt w d) (h8 : ∀ s, getD w (.int 8) s = .ok (.tup (rs.map Rl.D)) s) (ho : ∀ r ∈ rs, r.ok d) (hn : n = rs.length) : ∃ x4, forGo (fun _ => True) (gN 4) (sIf (tNotD (cTru (cCall m__law_alike [(cCall m__law_touches [(cVar 3), (cVar 4)]), (cCall m_touches [(cVar 3), (cVar 4)])]))) (sRet (cC (.bl false))) sNext) (rngD 0 n) [some x0, some x1, some (.loc b), some w, y4, y5, y6, y7] st = .nx [some x0, some x1, some (.loc b), some w, x4, y5, y6, y7] st := by
  obtain ⟨ρ, st', e, x4, hρ, hs⟩ := forGo_inv (chk := fun _ => True) (g := gN 4) (body := (sIf (tNotD (cTru (cCall m__law_alike [(cCall m__law_touches [(cVar 3), (cVar 4)]), (cCall m_touches [(cVar 3), (cVar 4)])]))) (sRet (cC (.bl false))) sNext))
    (fun k ρ s => ∃ x4, ρ = [some x0, some x1, some (.loc b), some w, x4, y5, y6, y7] ∧ s = st) (rngD 0 n) 0 (fun _ _ _ _ => trivial) (fun i x hx ρ s ⟨x4, hρ, hs⟩ => by
      subst hρ
      subst hs
      have hi := (List.getElem?_eq_some_iff.mp hx).1
      rw [rngD_len] at hi
      rw [rngD_nat, List.getElem?_map, List.getElem?_range hi] at hx
      cases hx
      have hj : rs[i]? = some rs[i] := List.getElem?_eq_getElem (by omega)
      have a1 := rule_law s hw h8 ho hj
      have a2 := rule_prog s hw h8 ho hj
      have oo := ansOf_ok hw.sm.1 (ho _ (List.mem_of_getElem? hj))
      have a3 := alike_ok (L := (ansOf d rs[i]).L) (C := (ansOf d rs[i]).C) (d := (ansOf d rs[i]).d) (t := (ansOf d rs[i]).t) (K := (ansOf d rs[i]).K) s (by have := oo.1; omega) (by have := oo.2.1; omega) (by have := oo.2.2; omega)
      have a3 : m__law_alike [(ansOf d rs[i]).D, (ansOf d rs[i]).D] s = .ok (.bl true) s := a3
      refine ⟨_, rfl, [some x0, some x1, some (.loc b), some w, some (.int (i : Int)), y5, y6, y7], s, .inl (sIf_false (st' := s) (by simp [a1, a2, a3]) (by simp)), some (.int (i : Int)), rfl, rfl⟩) [some x0, some x1, some (.loc b), some w, y4, y5, y6, y7] st ⟨y4, rfl, rfl⟩
  subst hρ
  subst hs
  exact ⟨x4, e⟩
theorem loop_t {b : Nat} {x0 x1 : D} {x4 z5 z6 z7 : Option D} {m : Nat} {st : Sto} (hb : Bg b st) (hw : WAt w d) (h8 : ∀ s, getD w (.int 8) s = .ok (.tup (rs.map Rl.D)) s) (ho : ∀ r ∈ rs, r.ok d) (hn : 2 ≤ rs.length) (hn2 : rs.length ≤ 20) : ∃ ρ' st', forGo (fun _ => True) (gN 5) (sSeq (sSet 6 (cCall m__law_draw [(cVar 2), (cB1 lenD (cOp2 getD (cVar 3) (cC (.int 8))))]))
  (sSeq (sSet 4 (cOp2 modD (cB1 intD (cOp2 addD (cOp2 addD (cVar 6) (cC (.int 1))) (cCall m__law_draw [(cVar 2), (cOp2 subD (cB1 lenD (cOp2 getD (cVar 3) (cC (.int 8)))) (cC (.int 1)))]))) (cB1 lenD (cOp2 getD (cVar 3) (cC (.int 8))))))
  (sSeq (sSet 7 (cB1 reprD (cCall m__law_apart [(cVar 3), (cVar 6), (cVar 4)])))
  (sIf (tOrD (cTst (cOp2 neD (cB1 reprD (cCall m_apart [(cVar 3), (cVar 6), (cVar 4)])) (cVar 7))) (cTst (cOp2 neD (cB1 reprD (cCall m_apart [(cVar 3), (cVar 4), (cVar 6)])) (cVar 7)))) (sRet (cC (.bl false))) sNext)))) (rngD 0 m) [some x0, some x1, some (.loc b), some w, x4, z5, z6, z7] st = .nx ρ' st' ∧ ∃ y2 y3 y4 y5 y6 y7, ρ' = [some x0, some x1, y2, y3, y4, y5, y6, y7] := by
  obtain ⟨ρ, st', e, y4, y5, y6, y7, hρ, hb'⟩ := forGo_inv (chk := fun _ => True) (g := gN 5) (body := (sSeq (sSet 6 (cCall m__law_draw [(cVar 2), (cB1 lenD (cOp2 getD (cVar 3) (cC (.int 8))))]))
  (sSeq (sSet 4 (cOp2 modD (cB1 intD (cOp2 addD (cOp2 addD (cVar 6) (cC (.int 1))) (cCall m__law_draw [(cVar 2), (cOp2 subD (cB1 lenD (cOp2 getD (cVar 3) (cC (.int 8)))) (cC (.int 1)))]))) (cB1 lenD (cOp2 getD (cVar 3) (cC (.int 8))))))
  (sSeq (sSet 7 (cB1 reprD (cCall m__law_apart [(cVar 3), (cVar 6), (cVar 4)])))
  (sIf (tOrD (cTst (cOp2 neD (cB1 reprD (cCall m_apart [(cVar 3), (cVar 6), (cVar 4)])) (cVar 7))) (cTst (cOp2 neD (cB1 reprD (cCall m_apart [(cVar 3), (cVar 4), (cVar 6)])) (cVar 7)))) (sRet (cC (.bl false))) sNext)))))
    (fun k ρ s => ∃ y4 y5 y6 y7, ρ = [some x0, some x1, some (.loc b), some w, y4, y5, y6, y7] ∧ Bg b s) (rngD 0 m) 0 (fun _ _ _ _ => trivial) (fun i x hx ρ s ⟨y4, y5, y6, y7, hρ, hs⟩ => by
      subst hρ
      have l8 : ∀ s, (getD w (.int 8) s).bind lenD = .ok (.int (rs.length : Int)) s := fun s => by rw [h8]; simp [lenD]
      obtain ⟨vi, s1, e1, k1, p1, q1⟩ := draw_pos (many := (rs.length : Int)) hs (by omega) (by omega)
      obtain ⟨ni, rfl⟩ := nat_of p1
      obtain ⟨vj, s2, e2, k2, p2, q2⟩ := draw_pos (many := (rs.length : Int) - 1) k1.bag (by omega) (by omega)
      have hm : ∀ (i : Int) (t : Sto), modD (.int i) (.int (rs.length : Int)) t = .ok (.int (i.fmod rs.length)) t := fun i t => modD_int t (by omega)
      obtain ⟨nj, hnj⟩ := nat_of (Int.fmod_nonneg_of_pos ((ni : Int) + 1 + vj) (show (0 : Int) < rs.length by omega))
      have hlt := Int.fmod_lt_of_pos ((ni : Int) + 1 + vj) (show (0 : Int) < rs.length by omega)
      rw [hnj] at hlt
      have hi : rs[ni]? = some rs[ni] := List.getElem?_eq_getElem (by omega)
      have hj : rs[nj]? = some rs[nj] := List.getElem?_eq_getElem (by omega)
      have oi := ansOf_ok hw.sm.1 (ho _ (List.mem_of_getElem? hi))
      have oj := ansOf_ok hw.sm.1 (ho _ (List.mem_of_getElem? hj))
      have f1 := lapart_ok s2 (rule_law s2 hw h8 ho hi) (rule_law s2 hw h8 ho hj) oi oj
      have f2 := apart_ok s2 (rule_prog s2 hw h8 ho hi) (rule_prog s2 hw h8 ho hj) oi oj
      have f3 := apart_ok s2 (rule_prog s2 hw h8 ho hj) (rule_prog s2 hw h8 ho hi) oj oi
      rw [apB_comm] at f3
      have rp : ∀ (z : Bool) (s : Sto), reprD (.bl z) s = .ok (.str (if z then "True" else "False")) s := fun _ _ => rfl
      refine ⟨_, rfl, [some x0, some x1, some (.loc b), some w, some (.int (nj : Int)), some x, some (.int (ni : Int)), some (.str (if apB (ansOf d rs[ni]) (ansOf d rs[nj]) then "True" else "False"))], s2, .inl ?_, _, _, _, _, rfl, k2.bag⟩
      refine sSeq_nx (sSet_ok (d := .int (ni : Int)) (st' := s1) (by simp [l8, e1]) rfl) ?_
      refine sSeq_nx (sSet_ok (d := .int (nj : Int)) (st' := s2) (by simp [l8, e2, hm, hnj]) rfl) ?_
      refine sSeq_nx (sSet_ok (d := .str (if apB (ansOf d rs[ni]) (ansOf d rs[nj]) then "True" else "False")) (st' := s2) (by simp [f1, rp]) rfl) ?_
      refine sIf_false (st' := s2) ?_ rfl
      simp [f2, f3, rp, neD_str]) [some x0, some x1, some (.loc b), some w, x4, z5, z6, z7] st ⟨x4, z5, z6, z7, rfl, hb⟩
  exact ⟨ρ, st', e, _, _, _, _, _, _, hρ⟩
end
theorem law_holds : ∀ ns : List Int, ns.length ≤ 63 → ∃ st, m_law [.con (ns.map D.int)] [] = .ok (.bl true) st := by
  intro ns hns
  have hl : ∀ s, lenD (.con (ns.map .int)) s = .ok (.int (ns.length : Int)) s := fun s => by simp [lenD]
  obtain ⟨n0, hn0⟩ := nat_of (v := max 1 (min 6 (ns.length : Int))) (by omega)
  obtain ⟨ρ, st, e, x1, x2, x3, x4, x5, x6, x7, hρ⟩ := forGo_inv (chk := fun _ => True) (g := gN 1) (body := (sSeq (sSet 2 (cCall m__law_bag [(cVar 0), (cVar 1)]))
  (sSeq (sSet 3 (cCall m__law_world [(cVar 2), (cB1 intD (cOp2 eqD (cCall m__law_draw [(cVar 2), (cC (.int 6))]) (cC (.int 0))))]))
  (sSeq (sFor (cRng1 (cB1 lenD (cOp2 getD (cVar 3) (cC (.int 8))))) (gN 4) (sIf (tNotD (cTru (cCall m__law_alike [(cCall m__law_touches [(cVar 3), (cVar 4)]), (cCall m_touches [(cVar 3), (cVar 4)])]))) (sRet (cC (.bl false))) sNext))
  (sFor (cRng1 (cOp2 mulD (cC (.int 6)) (cB1 intD (cOp2 gtD (cB1 lenD (cOp2 getD (cVar 3) (cC (.int 8)))) (cC (.int 1)))))) (gN 5) (sSeq (sSet 6 (cCall m__law_draw [(cVar 2), (cB1 lenD (cOp2 getD (cVar 3) (cC (.int 8))))]))
  (sSeq (sSet 4 (cOp2 modD (cB1 intD (cOp2 addD (cOp2 addD (cVar 6) (cC (.int 1))) (cCall m__law_draw [(cVar 2), (cOp2 subD (cB1 lenD (cOp2 getD (cVar 3) (cC (.int 8)))) (cC (.int 1)))]))) (cB1 lenD (cOp2 getD (cVar 3) (cC (.int 8))))))
  (sSeq (sSet 7 (cB1 reprD (cCall m__law_apart [(cVar 3), (cVar 6), (cVar 4)])))
  (sIf (tOrD (cTst (cOp2 neD (cB1 reprD (cCall m_apart [(cVar 3), (cVar 6), (cVar 4)])) (cVar 7))) (cTst (cOp2 neD (cB1 reprD (cCall m_apart [(cVar 3), (cVar 4), (cVar 6)])) (cVar 7)))) (sRet (cC (.bl false))) sNext)))))))))
    (fun k ρ s => ∃ x1 x2 x3 x4 x5 x6 x7, ρ = [some (.con (ns.map .int)), x1, x2, x3, x4, x5, x6, x7]) (rngD 0 n0) 0 (fun _ _ _ _ => trivial) (fun i x hx ρ s ⟨x1, x2, x3, x4, x5, x6, x7, hρ⟩ => by
      subst hρ
      obtain ⟨k, rfl, r0, r1⟩ := mem_rng (List.mem_of_getElem? hx)
      refine ⟨_, rfl, ?_⟩
      obtain ⟨c, ec⟩ := bag_new s ns k r0 (by omega)
      have hb : Bg s.length (s ++ [bagO 0 (233 + 48611 * k) 0 c]) := ⟨_, _, _, _, get_new⟩
      obtain ⟨v, s1, e1, k1, p1, q1⟩ := draw_pos (many := 6) hb (by decide) (by decide)
      obtain ⟨lg, hlg, elg⟩ : ∃ lg : Int, (lg = 0 ∨ lg = 1) ∧ ∀ s, intD (.bl (decide (v = 0))) s = .ok (.int lg) s := by
        by_cases hv : v = 0
        · exact ⟨1, .inr rfl, fun s => by simp [hv]⟩
        · exact ⟨0, .inl rfl, fun s => by simp [hv]⟩
      obtain ⟨d, w, s2, e2, k2, hw, rs, h8, ho, hrs⟩ := world_ok k1.bag hlg
      obtain ⟨z4, e3⟩ := loop_j (b := s.length) (x0 := .con (ns.map .int)) (x1 := .int k) (y4 := x4) (y5 := x5) (y6 := x6) (y7 := x7) (n := rs.length) s2 hw h8 ho rfl
      have l8 : ∀ s, (getD w (.int 8) s).bind lenD = .ok (.int (rs.length : Int)) s := fun s => by rw [h8]; simp [lenD]
      have turns : ∃ ρ' st', sFor (cRng1 (cOp2 mulD (cC (.int 6)) (cB1 intD (cOp2 gtD (cB1 lenD (cOp2 getD (cVar 3) (cC (.int 8)))) (cC (.int 1)))))) (gN 5) (sSeq (sSet 6 (cCall m__law_draw [(cVar 2), (cB1 lenD (cOp2 getD (cVar 3) (cC (.int 8))))]))
  (sSeq (sSet 4 (cOp2 modD (cB1 intD (cOp2 addD (cOp2 addD (cVar 6) (cC (.int 1))) (cCall m__law_draw [(cVar 2), (cOp2 subD (cB1 lenD (cOp2 getD (cVar 3) (cC (.int 8)))) (cC (.int 1)))]))) (cB1 lenD (cOp2 getD (cVar 3) (cC (.int 8))))))
  (sSeq (sSet 7 (cB1 reprD (cCall m__law_apart [(cVar 3), (cVar 6), (cVar 4)])))
  (sIf (tOrD (cTst (cOp2 neD (cB1 reprD (cCall m_apart [(cVar 3), (cVar 6), (cVar 4)])) (cVar 7))) (cTst (cOp2 neD (cB1 reprD (cCall m_apart [(cVar 3), (cVar 4), (cVar 6)])) (cVar 7)))) (sRet (cC (.bl false))) sNext)))) [some (.con (ns.map .int)), some (.int k), some (.loc s.length), some w, z4, x5, x6, x7] s2 = .nx ρ' st' ∧ ∃ y2 y3 y4 y5 y6 y7, ρ' = [some (.con (ns.map .int)), some (.int k), y2, y3, y4, y5, y6, y7] := by
        by_cases h2 : 2 ≤ rs.length
        · obtain ⟨ρ', st', e4, q⟩ := loop_t (b := s.length) (x0 := .con (ns.map .int)) (x1 := .int k) (x4 := z4) (z5 := x5) (z6 := x6) (z7 := x7) (m := 6) (st := s2) k2.bag hw h8 ho h2 hrs
          refine ⟨ρ', st', sFor_ok (b := ⟨fun _ => True, rngD 0 6⟩) (st' := s2) (cRng1_ok (n := 6) ?_ (by decide)) e4, q⟩
          have : (1 : Int) < rs.length := by omega
          simp [l8, gtD, this, mulD_int]
        · refine ⟨_, s2, sFor_ok (b := ⟨fun _ => True, rngD 0 0⟩) (st' := s2) (cRng1_ok (n := 0) ?_ (by decide)) (forGo_nil trivial), _, _, _, _, _, _, rfl⟩
          have : ¬ (1 : Int) < rs.length := by omega
          simp [l8, gtD, this, mulD_int]
      obtain ⟨ρ', st', e5, y2, y3, y4, y5, y6, y7, hρ'⟩ := turns
      refine ⟨ρ', st', .inl ?_, some (.int k), y2, y3, y4, y5, y6, y7, hρ'⟩
      refine sSeq_nx (sSet_ok (d := .loc s.length) (st' := s ++ [bagO 0 (233 + 48611 * k) 0 c]) (by simp [ec]) rfl) ?_
      refine sSeq_nx (sSet_ok (d := w) (st' := s2) (by simp [e1, elg, e2]) rfl) ?_
      refine sSeq_nx (sFor_ok (b := ⟨fun _ => True, rngD 0 rs.length⟩) (st' := s2) (cRng1_ok (by simp [l8]) (by omega)) e3) ?_
      exact e5) [some (.con (ns.map .int)), none, none, none, none, none, none, none] [] ⟨none, none, none, none, none, none, none, rfl⟩
  subst hρ
  have e2 : b_law [some (.con (ns.map .int)), none, none, none, none, none, none, none] [] = .rt (.bl true) st := by
    unfold b_law
    refine sSeq_nx (sFor_ok (b := ⟨fun _ => True, rngD 0 n0⟩) (st' := []) (cRng1_ok ?_ (by omega)) e) (by simp)
    simp [hl, max2D, min2D, hn0]
  have h : m_law [.con (ns.map D.int)] [] = gcR [] (.ok (.bl true) st) := by
    show gcR [] (outR (b_law [some (.con (ns.map .int)), none, none, none, none, none, none, none] [])) = _
    rw [e2]; rfl
  rw [h]
  simp only [gcR]
  split
  · exact ⟨_, rfl⟩
  · exact ⟨_, rfl⟩
end PMl


set_option Elab.async false
set_option linter.all false
set_option maxRecDepth 100000
set_option maxHeartbeats 4000000
/-! the walk of k95 (printed by gen.py) -/
namespace PMl
open PySem PySem.Spec PyProof.Rows L2 PM
def top (i : Nat) : Stmt := PySem.Challenge.pw_latemoves_k95_what_rules_touch.main.body.getD i (.Pass ⟨0, 0, 0, 0⟩)
abbrev s_meet : Stmt := top 5
abbrev s_ordered : Stmt := top 3
abbrev s_Touch_told : Stmt := inClass (top 2) 9
abbrev s_Touch_look : Stmt := inClass (top 2) 1
abbrev s_Touch__field : Stmt := inClass (top 2) 3
abbrev s_Touch_expression : Stmt := inClass (top 2) 4
abbrev s_Touch__one : Stmt := inClass (top 2) 5
abbrev s_Touch_change : Stmt := inClass (top 2) 2
abbrev s_Touch__make : Stmt := inClass (top 2) 8
abbrev s_Touch_body : Stmt := inClass (top 2) 6
abbrev s_Touch__statement : Stmt := inClass (top 2) 7
abbrev s_Touch_init : Stmt := inClass (top 2) 0
abbrev s_touches : Stmt := top 4
abbrev s_apart : Stmt := top 6
abbrev s__law_sorted : Stmt := top 20
abbrev s__law_seen : Stmt := top 22
abbrev s__law_nodes : Stmt := top 19
abbrev s__law_touches : Stmt := top 21
abbrev s__law_apart : Stmt := top 23
abbrev s__law_draw : Stmt := top 9
abbrev s__law_same : Stmt := top 24
abbrev s__law_alike : Stmt := top 25
abbrev s__law_leaf : Stmt := top 14
abbrev s__law_e : Stmt := top 15
abbrev s__law_s : Stmt := top 16
abbrev s__law_b : Stmt := top 17
abbrev s__law_names : Stmt := top 11
abbrev s__law_range : Stmt := top 12
abbrev s__law_declared : Stmt := top 13
abbrev s__law_world : Stmt := top 18
abbrev s__law_bag : Stmt := top 8
abbrev s_law : Stmt := top 26
structure Tx (K : Frag) (mg : Str → Option Value) (ca : Nat → Addr) : Prop where
  f_meet : TopF K mg "meet" s_meet
  f_ordered : TopF K mg "ordered" s_ordered
  f_Touch_told : MetF K (ca 0) "told" "Touch.told" s_Touch_told
  f_Touch_look : MetF K (ca 0) "look" "Touch.look" s_Touch_look
  f_Touch__field : MetF K (ca 0) "_field" "Touch._field" s_Touch__field
  f_Touch_expression : MetF K (ca 0) "expression" "Touch.expression" s_Touch_expression
  f_Touch__one : MetF K (ca 0) "_one" "Touch._one" s_Touch__one
  f_Touch_change : MetF K (ca 0) "change" "Touch.change" s_Touch_change
  f_Touch__make : MetF K (ca 0) "_make" "Touch._make" s_Touch__make
  f_Touch_body : MetF K (ca 0) "body" "Touch.body" s_Touch_body
  f_Touch__statement : MetF K (ca 0) "_statement" "Touch._statement" s_Touch__statement
  f_Touch_init : MkF K mg (ca 0) "Touch" "Touch.__init__" s_Touch_init
  f_touches : TopF K mg "touches" s_touches
  f_apart : TopF K mg "apart" s_apart
  f__law_sorted : TopF K mg "_law_sorted" s__law_sorted
  f__law_seen : TopF K mg "_law_seen" s__law_seen
  f__law_nodes : TopF K mg "_law_nodes" s__law_nodes
  f__law_touches : TopF K mg "_law_touches" s__law_touches
  f__law_apart : TopF K mg "_law_apart" s__law_apart
  f__law_draw : TopF K mg "_law_draw" s__law_draw
  f__law_same : TopF K mg "_law_same" s__law_same
  f__law_alike : TopF K mg "_law_alike" s__law_alike
  f__law_leaf : TopF K mg "_law_leaf" s__law_leaf
  f__law_e : TopF K mg "_law_e" s__law_e
  f__law_s : TopF K mg "_law_s" s__law_s
  f__law_b : TopF K mg "_law_b" s__law_b
  f__law_names : TopF K mg "_law_names" s__law_names
  f__law_range : TopF K mg "_law_range" s__law_range
  f__law_declared : TopF K mg "_law_declared" s__law_declared
  f__law_world : TopF K mg "_law_world" s__law_world
  f__law_bag : TopF K mg "_law_bag" s__law_bag
  f_law : TopF K mg "law" s_law
  fl__changes : ∀ c ∈ ([0] : List Nat), Cls K (ca c) ∧ NoAttr K (ca c) "_changes"
  fl__draws : ∀ c ∈ ([0] : List Nat), Cls K (ca c) ∧ NoAttr K (ca c) "_draws"
  fl__eaches : ∀ c ∈ ([0] : List Nat), Cls K (ca c) ∧ NoAttr K (ca c) "_eaches"
  fl__knobs : ∀ c ∈ ([0] : List Nat), Cls K (ca c) ∧ NoAttr K (ca c) "_knobs"
  fl__looks : ∀ c ∈ ([0] : List Nat), Cls K (ca c) ∧ NoAttr K (ca c) "_looks"
  fl__tells : ∀ c ∈ ([0] : List Nat), Cls K (ca c) ∧ NoAttr K (ca c) "_tells"
  fl__world : ∀ c ∈ ([0] : List Nat), Cls K (ca c) ∧ NoAttr K (ca c) "_world"
  z_any : mg "any" = none
  z_bool : mg "bool" = none
  z_int : mg "int" = none
  z_isinstance : mg "isinstance" = none
  z_len : mg "len" = none
  z_max : mg "max" = none
  z_min : mg "min" = none
  z_range : mg "range" = none
  z_repr : mg "repr" = none
  z_sorted : mg "sorted" = none
  z_str : mg "str" = none
  z_tuple : mg "tuple" = none
  k_KINDS : CstF K mg "KINDS" k_KINDS
section
variable {P : Program} {w : World} {K : Frag} {mg : Str → Option Value} {base : Heap} {ca : Nat → Addr}
theorem sc_meet : FnScope ["one", "other", "place"] ["one", "other"] (defScope s_meet) := ⟨rfl, rfl, rfl, by decide +kernel, rfl, by decide +kernel, by decide +kernel⟩
theorem fn_meet (T : Tx K mg ca) {f : Addr} {fd : FuncData} (F : Fun K "meet" "meet" s_meet f fd) : FnOk P w K mg base (L2.CX P w) 1 f fd ["one", "other"] (spOf K ca 2 m_meet) := by
  have sc := sc_meet
  refine fn_okn (k := 0) (n := 3) (p := 2) (s := b_meet) F sc rfl rfl fun cdv A outer s0 H E hr ok => ?_
  have hu1 := hu1_of hr
  have hu64 := hu64_of hr
  have hu65 := hu65_of hr
  exact (qf_one (qf_ret (qe_any rfl (qm_l (ql_comp (t := (.one 2)) (own := [("place", 2)]) rfl sc.nd (qi_e (qe_var 0)) (blkOk_by (N := ["one", "other", "place"]) (sc := defScope s_meet) (by decide +kernel)) (fun _ _ _ _ _ => pg_name (i := 2) sc.nd rfl (Or.inl rfl)) (fun _ _ _ _ _ => qts_nil) (fun _ _ _ _ _ => (qe_cmp (d_in' hu65) (qe_var 2) (qe_var 1) rfl)) (by decide))) rfl T.z_any)))
theorem ok_meet (T : Tx K mg ca) : Fn P w K mg base ca 1 "meet" ["one", "other"] m_meet := Fn.of T.f_meet (fun _ _ _ _ _ _ us hl => match us, hl with | [_, _], _ => rfl) fun f fd F => fn_meet T F
theorem sc_ordered : FnScope ["places", "found", "kind", "place"] ["places"] (defScope s_ordered) := ⟨rfl, rfl, rfl, by decide +kernel, rfl, by decide +kernel, by decide +kernel⟩
theorem fn_ordered (T : Tx K mg ca) {f : Addr} {fd : FuncData} (F : Fun K "ordered" "ordered" s_ordered f fd) : FnOk P w K mg base (L2.CX P w) 1 f fd ["places"] (spOf K ca 1 m_ordered) := by
  have sc := sc_ordered
  refine fn_okn (k := 0) (n := 4) (p := 1) (s := b_ordered) F sc rfl rfl fun cdv A outer s0 H E hr ok => ?_
  have hu1 := hu1_of hr
  have hu64 := hu64_of hr
  have hu65 := hu65_of hr
  exact (qf_cons (qf_set 1 sc.nd (qe_new (ql_lst qa_nil (hz := Nat.le_of_ble_eq_true rfl))))
  (qf_cons (qf_for ok (qi_e (qe_cst T.k_KINDS rfl)) (qg_name 2 sc.nd) (qf_one (qf_exp (qe_ext (qe_var 1) (qm_l (ql_sortedA (qm_l (ql_comp (t := (.one 3)) (own := [("place", 3)]) rfl sc.nd (qi_e (qe_var 0)) (blkOk_by (N := ["places", "found", "kind", "place"]) (sc := defScope s_ordered) (by decide +kernel)) (fun _ _ _ _ _ => pg_name (i := 3) sc.nd rfl (Or.inl rfl)) (fun _ _ _ _ _ => qts_one (qt_cmp (d_eq hu64) (qe_ix hu1 (qe_var 3) qe_int) (qe_var 2) rfl)) (fun _ _ _ _ _ => (qe_var 3)) (by decide))) rfl T.z_sorted))))))
  (qf_one (qf_ret (qe_tuple (qs_e (qe_var 1)) rfl T.z_tuple)))))
theorem ok_ordered (T : Tx K mg ca) : Fn P w K mg base ca 1 "ordered" ["places"] m_ordered := Fn.of T.f_ordered (fun _ _ _ _ _ _ us hl => match us, hl with | [_], _ => rfl) fun f fd F => fn_ordered T F
theorem sc_Touch_told : FnScope ["self", "knobs"] ["self"] (defScope s_Touch_told) := ⟨rfl, rfl, rfl, by decide +kernel, rfl, by decide +kernel, by decide +kernel⟩
theorem fn_Touch_told (T : Tx K mg ca) {f : Addr} {fd : FuncData} (F : Fun K "told" "Touch.told" s_Touch_told f fd) : FnOk P w K mg base (L2.CX P w) 2 f fd ["self"] (spOf K ca 1 m_Touch_told) := by
  have sc := sc_Touch_told
  refine fn_okn (k := 1) (n := 2) (p := 1) (s := b_Touch_told) F sc rfl rfl fun cdv A outer s0 H E hr ok => ?_
  have hu1 := hu1_of hr
  have hu64 := hu64_of hr
  have hu65 := hu65_of hr
  exact (qf_cons (qf_set 1 sc.nd (qe_tuple (qs_l (ql_sortedA (qm_e (qe_fld T.fl__knobs (qe_var 0))) rfl T.z_sorted)) rfl T.z_tuple))
  (qf_one (qf_ret (qe_tup (qa_cons qe_str (qa_cons (qe_call (ok_ordered T) (hr.mono (by decide)) ok (qa_cons (qe_fld T.fl__looks (qe_var 0)) qa_nil) rfl) (qa_cons (qe_call (ok_ordered T) (hr.mono (by decide)) ok (qa_cons (qe_fld T.fl__changes (qe_var 0)) qa_nil) rfl) (qa_cons (qe_fld T.fl__draws (qe_var 0)) (qa_cons (qe_fld T.fl__tells (qe_var 0)) (qa_cons (qe_var 1) qa_nil)))))) (hz := Nat.le_of_ble_eq_true rfl)))))
theorem ok_Touch_told (T : Tx K mg ca) : Md P w K mg base ca 2 0 "told" ["self"] m_Touch_told := Md.of T.f_Touch_told (fun _ _ _ _ _ _ us hl => match us, hl with | [_], _ => rfl) fun f fd F => fn_Touch_told T F
theorem sc_Touch_look : FnScope ["self", "place"] ["self", "place"] (defScope s_Touch_look) := ⟨rfl, rfl, rfl, by decide +kernel, rfl, by decide +kernel, by decide +kernel⟩
theorem fn_Touch_look (T : Tx K mg ca) {f : Addr} {fd : FuncData} (F : Fun K "look" "Touch.look" s_Touch_look f fd) : FnOk P w K mg base (L2.CX P w) 1 f fd ["self", "place"] (spOf K ca 2 m_Touch_look) := by
  have sc := sc_Touch_look
  refine fn_okn (k := 0) (n := 2) (p := 2) (s := b_Touch_look) F sc rfl rfl fun cdv A outer s0 H E hr ok => ?_
  have hu1 := hu1_of hr
  have hu64 := hu64_of hr
  have hu65 := hu65_of hr
  exact (qf_one (qf_if (qt_cmp (d_notIn' hu65) (qe_var 1) (qe_fld T.fl__looks (qe_var 0)) rfl) (qf_one (qf_exp (qe_app (qe_fld T.fl__looks (qe_var 0)) (qe_var 1)))) qf_nil))
theorem ok_Touch_look (T : Tx K mg ca) : Md P w K mg base ca 1 0 "look" ["self", "place"] m_Touch_look := Md.of T.f_Touch_look (fun _ _ _ _ _ _ us hl => match us, hl with | [_, _], _ => rfl) fun f fd F => fn_Touch_look T F
theorem sc_Touch__field : FnScope ["self", "k", "f"] ["self", "k", "f"] (defScope s_Touch__field) := ⟨rfl, rfl, rfl, by decide +kernel, rfl, by decide +kernel, by decide +kernel⟩
theorem fn_Touch__field (T : Tx K mg ca) {f : Addr} {fd : FuncData} (F : Fun K "_field" "Touch._field" s_Touch__field f fd) : FnOk P w K mg base (L2.CX P w) 1 f fd ["self", "k", "f"] (spOf K ca 3 m_Touch__field) := by
  have sc := sc_Touch__field
  refine fn_okn (k := 0) (n := 3) (p := 3) (s := b_Touch__field) F sc rfl rfl fun cdv A outer s0 H E hr ok => ?_
  have hu1 := hu1_of hr
  have hu64 := hu64_of hr
  have hu65 := hu65_of hr
  exact (qf_one (qf_ret (qe_tup (qa_cons qe_str (qa_cons (qe_ix hu1 (qe_fld T.fl__eaches (qe_var 0)) (qe_var 1)) (qa_cons (qe_var 2) qa_nil))) (hz := Nat.le_of_ble_eq_true rfl))))
theorem ok_Touch__field (T : Tx K mg ca) : Md P w K mg base ca 1 0 "_field" ["self", "k", "f"] m_Touch__field := Md.of T.f_Touch__field (fun _ _ _ _ _ _ us hl => match us, hl with | [_, _, _], _ => rfl) fun f fd F => fn_Touch__field T F
theorem sc_Touch_expression : FnScope ["self", "e", "kind"] ["self", "e"] (defScope s_Touch_expression) := ⟨rfl, rfl, rfl, by decide +kernel, rfl, by decide +kernel, by decide +kernel⟩
theorem sc_Touch__one : FnScope ["self", "e"] ["self", "e"] (defScope s_Touch__one) := ⟨rfl, rfl, rfl, by decide +kernel, rfl, by decide +kernel, by decide +kernel⟩
theorem fg_Touch_expression (T : Tx K mg ca) : ∀ n : Nat, (∀ {f : Addr} {fd : FuncData}, Fun K "expression" "Touch.expression" s_Touch_expression f fd → FnOk P w K mg base (L2.CX P w) (n + 1) f fd ["self", "e"] (spOf K ca 2 (r_Touch_expression n 0))) ∧ (∀ {f : Addr} {fd : FuncData}, Fun K "_one" "Touch._one" s_Touch__one f fd → FnOk P w K mg base (L2.CX P w) (n + 1) f fd ["self", "e"] (spOf K ca 2 (r_Touch_expression n 1))) := by
  intro n
  induction n with
  | zero => exact ⟨fun _ => fn_bad, fun _ => fn_bad⟩
  | succ n ihn =>
    have ih0 : Md P w K mg base ca (n + 1) 0 "expression" ["self", "e"] (r_Touch_expression n 0) := Md.of T.f_Touch_expression (fun _ _ _ _ _ _ us hl => match us, hl with | [_, _], _ => rfl) fun f fd F => ihn.1 F
    have ih1 : Md P w K mg base ca (n + 1) 0 "_one" ["self", "e"] (r_Touch_expression n 1) := Md.of T.f_Touch__one (fun _ _ _ _ _ _ us hl => match us, hl with | [_, _], _ => rfl) fun f fd F => ihn.2 F
    refine ⟨?_, ?_⟩
    · intro f fd F
      rw [show n + 1 + 1 = n + 1 + 1 by omega]
      have sc := sc_Touch_expression
      refine fn_okn (k := n + 1) (n := 3) (p := 2) (s := b_Touch_expression (r_Touch_expression n)) F sc rfl rfl fun cdv A outer s0 H E hr ok => ?_
      have hu1 := hu1_of hr
      have hu64 := hu64_of hr
      have hu65 := hu65_of hr
      exact (qf_cons (qf_set 2 sc.nd (qe_ix hu1 (qe_var 1) qe_int))
      (qf_one (qf_if (qt_cmp (d_eq hu64) (qe_var 2) qe_str rfl) (qf_one (qf_exp (qe_meth (ok_Touch_look T) (hr.mono (by omega)) ok (qe_var 0) (qa_cons (qe_var 1) qa_nil)))) (qf_one (qf_if (qt_cmp (d_eq hu64) (qe_var 2) qe_str rfl) (qf_one (qf_exp (qe_meth (ok_Touch_look T) (hr.mono (by omega)) ok (qe_var 0) (qa_cons (qe_meth (ok_Touch__field T) (hr.mono (by omega)) ok (qe_var 0) (qa_cons (qe_ix hu1 (qe_var 1) qe_int) (qa_cons (qe_ix hu1 (qe_var 1) qe_int) qa_nil))) qa_nil)))) (qf_one (qf_if (qt_cmp (d_eq hu64) (qe_var 2) qe_str rfl) (qf_one (qf_exp (qe_meth (ok_Touch_look T) (hr.mono (by omega)) ok (qe_var 0) (qa_cons (qe_tup (qa_cons qe_str (qa_cons (qe_ix hu1 (qe_var 1) qe_int) qa_nil)) (hz := Nat.le_of_ble_eq_true rfl)) qa_nil)))) (qf_one (qf_if (qt_cmp (d_eq hu64) (qe_var 2) qe_str rfl) (qf_cons (qf_exp (qe_meth (ok_Touch_look T) (hr.mono (by omega)) ok (qe_var 0) (qa_cons (qe_meth (ok_Touch__field T) (hr.mono (by omega)) ok (qe_var 0) (qa_cons (qe_ix hu1 (qe_var 1) qe_int) (qa_cons (qe_ix hu1 (qe_var 1) qe_int) qa_nil))) qa_nil)))
      (qf_one (qf_exp (qe_meth ih0 hr ok (qe_var 0) (qa_cons (qe_ix hu1 (qe_var 1) qe_int) qa_nil))))) (qf_one (qf_if (qt_cmp (d_eq hu64) (qe_var 2) qe_str rfl) (qf_cons (qf_exp (qe_meth ih0 hr ok (qe_var 0) (qa_cons (qe_ix hu1 (qe_var 1) qe_int) qa_nil)))
      (qf_one (qf_exp (qe_meth ih0 hr ok (qe_var 0) (qa_cons (qe_ix hu1 (qe_var 1) qe_int) qa_nil))))) (qf_one (qf_if (qt_cmp (d_in' hu65) (qe_var 2) (qe_tup (qa_cons qe_str (qa_cons qe_str (qa_cons qe_str qa_nil))) (hz := Nat.le_of_ble_eq_true rfl)) rfl) (qf_one (qf_exp (qe_meth ih1 hr ok (qe_var 0) (qa_cons (qe_var 1) qa_nil)))) qf_nil)))))))))))))
    · intro f fd F
      rw [show n + 1 + 1 = n + 1 + 1 by omega]
      have sc := sc_Touch__one
      refine fn_okn (k := n + 1) (n := 2) (p := 2) (s := b_Touch__one (r_Touch_expression n)) F sc rfl rfl fun cdv A outer s0 H E hr ok => ?_
      have hu1 := hu1_of hr
      have hu64 := hu64_of hr
      have hu65 := hu65_of hr
      exact (qf_cons (qf_if (qt_cmp (d_eq hu64) (qe_ix hu1 (qe_var 1) qe_int) qe_str rfl) (qf_one (qf_fld T.fl__draws (qe_var 0) qe_bl)) qf_nil)
      (qf_cons (qf_if (qt_w (qw_and (qt_cmp (d_eq hu64) (qe_ix hu1 (qe_var 1) qe_int) qe_str rfl) (qw_and1 (qt_cmp (d_notIn' hu65) (qe_ix hu1 (qe_var 1) qe_int) (qe_fld T.fl__knobs (qe_var 0)) rfl)))) (qf_one (qf_exp (qe_app (qe_fld T.fl__knobs (qe_var 0)) (qe_ix hu1 (qe_var 1) qe_int)))) qf_nil)
      (qf_one (qf_exp (qe_meth ih0 hr ok (qe_var 0) (qa_cons (qe_ix hu1 (qe_var 1) qe_int) qa_nil))))))
theorem ok_Touch_expression (T : Tx K mg ca) (n : Nat) : Md P w K mg base ca (n + 1) 0 "expression" ["self", "e"] (m_Touch_expression n) := Md.of T.f_Touch_expression (fun _ _ _ _ _ _ us hl => match us, hl with | [_, _], _ => rfl) fun f fd F => (fg_Touch_expression T n).1 F
theorem ok_Touch__one (T : Tx K mg ca) (n : Nat) : Md P w K mg base ca (n + 1) 0 "_one" ["self", "e"] (m_Touch__one n) := Md.of T.f_Touch__one (fun _ _ _ _ _ _ us hl => match us, hl with | [_, _], _ => rfl) fun f fd F => (fg_Touch_expression T n).2 F
theorem sc_Touch_change : FnScope ["self", "place"] ["self", "place"] (defScope s_Touch_change) := ⟨rfl, rfl, rfl, by decide +kernel, rfl, by decide +kernel, by decide +kernel⟩
theorem fn_Touch_change (T : Tx K mg ca) {f : Addr} {fd : FuncData} (F : Fun K "change" "Touch.change" s_Touch_change f fd) : FnOk P w K mg base (L2.CX P w) 1 f fd ["self", "place"] (spOf K ca 2 m_Touch_change) := by
  have sc := sc_Touch_change
  refine fn_okn (k := 0) (n := 2) (p := 2) (s := b_Touch_change) F sc rfl rfl fun cdv A outer s0 H E hr ok => ?_
  have hu1 := hu1_of hr
  have hu64 := hu64_of hr
  have hu65 := hu65_of hr
  exact (qf_one (qf_if (qt_cmp (d_notIn' hu65) (qe_var 1) (qe_fld T.fl__changes (qe_var 0)) rfl) (qf_one (qf_exp (qe_app (qe_fld T.fl__changes (qe_var 0)) (qe_var 1)))) qf_nil))
theorem ok_Touch_change (T : Tx K mg ca) : Md P w K mg base ca 1 0 "change" ["self", "place"] m_Touch_change := Md.of T.f_Touch_change (fun _ _ _ _ _ _ us hl => match us, hl with | [_, _], _ => rfl) fun f fd F => fn_Touch_change T F
theorem sc_Touch__make : FnScope ["self", "t", "numbers", "f", "e"] ["self", "t", "numbers"] (defScope s_Touch__make) := ⟨rfl, rfl, rfl, by decide +kernel, rfl, by decide +kernel, by decide +kernel⟩
theorem fn_Touch__make (T : Tx K mg ca) {f : Addr} {fd : FuncData} (F : Fun K "_make" "Touch._make" s_Touch__make f fd) : FnOk P w K mg base (L2.CX P w) 32 f fd ["self", "t", "numbers"] (spOf K ca 3 m_Touch__make) := by
  have sc := sc_Touch__make
  refine fn_okn (k := 31) (n := 5) (p := 3) (s := b_Touch__make) F sc rfl rfl fun cdv A outer s0 H E hr ok => ?_
  have hu1 := hu1_of hr
  have hu64 := hu64_of hr
  have hu65 := hu65_of hr
  exact (qf_cons (qf_exp (qe_meth (ok_Touch_look T) (hr.mono (by decide)) ok (qe_var 0) (qa_cons (qe_tup (qa_cons qe_str (qa_cons (qe_var 1) qa_nil)) (hz := Nat.le_of_ble_eq_true rfl)) qa_nil)))
  (qf_cons (qf_exp (qe_meth (ok_Touch_change T) (hr.mono (by decide)) ok (qe_var 0) (qa_cons (qe_tup (qa_cons qe_str (qa_cons (qe_var 1) qa_nil)) (hz := Nat.le_of_ble_eq_true rfl)) qa_nil)))
  (qf_cons (qf_for ok (qi_range1 rfl T.z_range (qe_len (qe_ix hu1 (qe_ix hu1 (qe_ix hu1 (qe_fld T.fl__world (qe_var 0)) qe_int) (qe_var 1)) qe_int) rfl T.z_len)) (qg_name 3 sc.nd) (qf_one (qf_exp (qe_meth (ok_Touch_change T) (hr.mono (by decide)) ok (qe_var 0) (qa_cons (qe_tup (qa_cons qe_str (qa_cons (qe_var 1) (qa_cons (qe_var 3) qa_nil))) (hz := Nat.le_of_ble_eq_true rfl)) qa_nil)))))
  (qf_one (qf_for ok (qi_e (qe_var 2)) (qg_name 4 sc.nd) (qf_one (qf_exp (qe_meth (ok_Touch_expression T 30) (hr.mono (by decide)) ok (qe_var 0) (qa_cons (qe_var 4) qa_nil)))))))))
theorem ok_Touch__make (T : Tx K mg ca) : Md P w K mg base ca 32 0 "_make" ["self", "t", "numbers"] m_Touch__make := Md.of T.f_Touch__make (fun _ _ _ _ _ _ us hl => match us, hl with | [_, _, _], _ => rfl) fun f fd F => fn_Touch__make T F
theorem sc_Touch_body : FnScope ["self", "body", "statement"] ["self", "body"] (defScope s_Touch_body) := ⟨rfl, rfl, rfl, by decide +kernel, rfl, by decide +kernel, by decide +kernel⟩
theorem sc_Touch__statement : FnScope ["self", "statement", "kind", "place"] ["self", "statement"] (defScope s_Touch__statement) := ⟨rfl, rfl, rfl, by decide +kernel, rfl, by decide +kernel, by decide +kernel⟩
theorem fg_Touch_body (T : Tx K mg ca) : ∀ n : Nat, (∀ {f : Addr} {fd : FuncData}, Fun K "body" "Touch.body" s_Touch_body f fd → FnOk P w K mg base (L2.CX P w) (n + 32) f fd ["self", "body"] (spOf K ca 2 (r_Touch_body n 0))) ∧ (∀ {f : Addr} {fd : FuncData}, Fun K "_statement" "Touch._statement" s_Touch__statement f fd → FnOk P w K mg base (L2.CX P w) (n + 32) f fd ["self", "statement"] (spOf K ca 2 (r_Touch_body n 1))) := by
  intro n
  induction n with
  | zero => exact ⟨fun _ => fn_bad, fun _ => fn_bad⟩
  | succ n ihn =>
    have ih0 : Md P w K mg base ca (n + 32) 0 "body" ["self", "body"] (r_Touch_body n 0) := Md.of T.f_Touch_body (fun _ _ _ _ _ _ us hl => match us, hl with | [_, _], _ => rfl) fun f fd F => ihn.1 F
    have ih1 : Md P w K mg base ca (n + 32) 0 "_statement" ["self", "statement"] (r_Touch_body n 1) := Md.of T.f_Touch__statement (fun _ _ _ _ _ _ us hl => match us, hl with | [_, _], _ => rfl) fun f fd F => ihn.2 F
    refine ⟨?_, ?_⟩
    · intro f fd F
      rw [show n + 1 + 32 = n + 32 + 1 by omega]
      have sc := sc_Touch_body
      refine fn_okn (k := n + 32) (n := 3) (p := 2) (s := b_Touch_body (r_Touch_body n)) F sc rfl rfl fun cdv A outer s0 H E hr ok => ?_
      have hu1 := hu1_of hr
      have hu64 := hu64_of hr
      have hu65 := hu65_of hr
      exact (qf_one (qf_for ok (qi_e (qe_var 1)) (qg_name 2 sc.nd) (qf_one (qf_exp (qe_meth ih1 hr ok (qe_var 0) (qa_cons (qe_var 2) qa_nil))))))
    · intro f fd F
      rw [show n + 1 + 32 = n + 32 + 1 by omega]
      have sc := sc_Touch__statement
      refine fn_okn (k := n + 32) (n := 4) (p := 2) (s := b_Touch__statement (r_Touch_body n)) F sc rfl rfl fun cdv A outer s0 H E hr ok => ?_
      have hu1 := hu1_of hr
      have hu64 := hu64_of hr
      have hu65 := hu65_of hr
      exact (qf_cons (qf_set 2 sc.nd (qe_ix hu1 (qe_var 1) qe_int))
      (qf_one (qf_if (qt_cmp (d_eq hu64) (qe_var 2) qe_str rfl) (qf_cons (qf_set 3 sc.nd (qe_ix hu1 (qe_var 1) qe_int))
      (qf_cons (qf_if (qt_cmp (d_eq hu64) (qe_ix hu1 (qe_var 3) qe_int) qe_str rfl) (qf_one (qf_set 3 sc.nd (qe_meth (ok_Touch__field T) (hr.mono (by omega)) ok (qe_var 0) (qa_cons (qe_ix hu1 (qe_var 3) qe_int) (qa_cons (qe_ix hu1 (qe_var 3) qe_int) qa_nil))))) qf_nil)
      (qf_cons (qf_exp (qe_meth (ok_Touch_change T) (hr.mono (by omega)) ok (qe_var 0) (qa_cons (qe_var 3) qa_nil)))
      (qf_one (qf_exp (qe_meth (ok_Touch_expression T 30) (hr.mono (by omega)) ok (qe_var 0) (qa_cons (qe_ix hu1 (qe_var 1) qe_int) qa_nil))))))) (qf_one (qf_if (qt_cmp (d_eq hu64) (qe_var 2) qe_str rfl) (qf_one (qf_exp (qe_meth (ok_Touch__make T) (hr.mono (by omega)) ok (qe_var 0) (qa_cons (qe_ix hu1 (qe_var 1) qe_int) (qa_cons (qe_ix hu1 (qe_var 1) qe_int) qa_nil))))) (qf_one (qf_if (qt_cmp (d_eq hu64) (qe_var 2) qe_str rfl) (qf_one (qf_exp (qe_meth (ok_Touch_change T) (hr.mono (by omega)) ok (qe_var 0) (qa_cons (qe_tup (qa_cons qe_str (qa_cons (qe_ix hu1 (qe_fld T.fl__eaches (qe_var 0)) (qe_ix hu1 (qe_var 1) qe_int)) qa_nil)) (hz := Nat.le_of_ble_eq_true rfl)) qa_nil)))) (qf_one (qf_if (qt_cmp (d_eq hu64) (qe_var 2) qe_str rfl) (qf_cons (qf_fld T.fl__tells (qe_var 0) qe_bl)
      (qf_one (qf_exp (qe_meth (ok_Touch_expression T 30) (hr.mono (by omega)) ok (qe_var 0) (qa_cons (qe_ix hu1 (qe_var 1) qe_int) qa_nil))))) (qf_cons (qf_exp (qe_meth (ok_Touch_expression T 30) (hr.mono (by omega)) ok (qe_var 0) (qa_cons (qe_ix hu1 (qe_var 1) qe_int) qa_nil)))
      (qf_cons (qf_exp (qe_meth ih0 hr ok (qe_var 0) (qa_cons (qe_ix hu1 (qe_var 1) qe_int) qa_nil)))
      (qf_one (qf_exp (qe_meth ih0 hr ok (qe_var 0) (qa_cons (qe_ix hu1 (qe_var 1) qe_int) qa_nil)))))))))))))))
theorem ok_Touch_body (T : Tx K mg ca) (n : Nat) : Md P w K mg base ca (n + 32) 0 "body" ["self", "body"] (m_Touch_body n) := Md.of T.f_Touch_body (fun _ _ _ _ _ _ us hl => match us, hl with | [_, _], _ => rfl) fun f fd F => (fg_Touch_body T n).1 F
theorem ok_Touch__statement (T : Tx K mg ca) (n : Nat) : Md P w K mg base ca (n + 32) 0 "_statement" ["self", "statement"] (m_Touch__statement n) := Md.of T.f_Touch__statement (fun _ _ _ _ _ _ us hl => match us, hl with | [_, _], _ => rfl) fun f fd F => (fg_Touch_body T n).2 F
theorem sc_Touch_init : FnScope ["self", "world", "eaches"] ["self", "world", "eaches"] (defScope s_Touch_init) := ⟨rfl, rfl, rfl, by decide +kernel, rfl, by decide +kernel, by decide +kernel⟩
theorem fn_Touch_init (T : Tx K mg ca) {f : Addr} {fd : FuncData} (F : Fun K "__init__" "Touch.__init__" s_Touch_init f fd) : FnOk P w K mg base (L2.CX P w) 1 f fd ["self", "world", "eaches"] (spOf K ca 3 m_Touch_init) := by
  have sc := sc_Touch_init
  refine fn_okn (k := 0) (n := 3) (p := 3) (s := b_Touch_init) F sc rfl rfl fun cdv A outer s0 H E hr ok => ?_
  have hu1 := hu1_of hr
  have hu64 := hu64_of hr
  have hu65 := hu65_of hr
  exact (qf_cons (qf_fld T.fl__world (qe_var 0) (qe_var 1))
  (qf_cons (qf_fld T.fl__eaches (qe_var 0) (qe_var 2))
  (qf_cons (qf_fld T.fl__looks (qe_var 0) (qe_new (ql_lst qa_nil (hz := Nat.le_of_ble_eq_true rfl))))
  (qf_cons (qf_fld T.fl__changes (qe_var 0) (qe_new (ql_lst qa_nil (hz := Nat.le_of_ble_eq_true rfl))))
  (qf_cons (qf_fld T.fl__draws (qe_var 0) qe_bl)
  (qf_cons (qf_fld T.fl__tells (qe_var 0) qe_bl)
  (qf_one (qf_fld T.fl__knobs (qe_var 0) (qe_new (ql_lst qa_nil (hz := Nat.le_of_ble_eq_true rfl)))))))))))
theorem ok_Touch_init (T : Tx K mg ca) : Cm P w K mg base ca 1 0 "Touch" ["self", "world", "eaches"] m_Touch_init := Cm.of T.f_Touch_init (fun _ _ _ _ _ _ us hl => match us, hl with | [_, _, _], _ => rfl) fun f fd F => fn_Touch_init T F
theorem sc_touches : FnScope ["world", "index", "_", "eaches", "condition", "body", "touch", "t"] ["world", "index"] (defScope s_touches) := ⟨rfl, rfl, rfl, by decide +kernel, rfl, by decide +kernel, by decide +kernel⟩
theorem fn_touches (T : Tx K mg ca) {f : Addr} {fd : FuncData} (F : Fun K "touches" "touches" s_touches f fd) : FnOk P w K mg base (L2.CX P w) 93 f fd ["world", "index"] (spOf K ca 2 m_touches) := by
  have sc := sc_touches
  refine fn_okn (k := 92) (n := 8) (p := 2) (s := b_touches) F sc rfl rfl fun cdv A outer s0 H E hr ok => ?_
  have hu1 := hu1_of hr
  have hu64 := hu64_of hr
  have hu65 := hu65_of hr
  exact (qf_cons (qf_asg (qe_ix hu1 (qe_ix hu1 (qe_var 0) qe_int) (qe_var 1)) (qg_tup rfl (qgs_cons (qg_name 2 sc.nd) (qgs_cons (qg_name 2 sc.nd) (qgs_cons (qg_name 3 sc.nd) (qgs_cons (qg_name 4 sc.nd) (qgs_cons (qg_name 5 sc.nd) qgs_nil)))))))
  (qf_cons (qf_set 6 sc.nd (qe_make (ok_Touch_init T) (hr.mono (by decide)) ok (qa_cons (qe_var 0) (qa_cons (qe_var 3) qa_nil)) rfl))
  (qf_cons (qf_for ok (qi_e (qe_var 3)) (qg_name 7 sc.nd) (qf_one (qf_exp (qe_meth (ok_Touch_look T) (hr.mono (by decide)) ok (qe_var 6) (qa_cons (qe_tup (qa_cons qe_str (qa_cons (qe_var 7) qa_nil)) (hz := Nat.le_of_ble_eq_true rfl)) qa_nil)))))
  (qf_cons (qf_if (qt_cmp d_notN (qe_var 4) qe_non rfl) (qf_one (qf_exp (qe_meth (ok_Touch_expression T 30) (hr.mono (by decide)) ok (qe_var 6) (qa_cons (qe_var 4) qa_nil)))) qf_nil)
  (qf_cons (qf_exp (qe_meth (ok_Touch_body T 60) (hr.mono (by decide)) ok (qe_var 6) (qa_cons (qe_var 5) qa_nil)))
  (qf_one (qf_ret (qe_meth0 (ok_Touch_told T) (hr.mono (by decide)) ok (qe_var 6)))))))))
theorem ok_touches (T : Tx K mg ca) : Fn P w K mg base ca 93 "touches" ["world", "index"] m_touches := Fn.of T.f_touches (fun _ _ _ _ _ _ us hl => match us, hl with | [_, _], _ => rfl) fun f fd F => fn_touches T F
theorem sc_apart : FnScope ["world", "i", "j", "_", "looks", "changes", "draws", "tells", "knobs", "seen", "turned", "drawn", "told", "asked"] ["world", "i", "j"] (defScope s_apart) := ⟨rfl, rfl, rfl, by decide +kernel, rfl, by decide +kernel, by decide +kernel⟩
theorem fn_apart (T : Tx K mg ca) {f : Addr} {fd : FuncData} (F : Fun K "apart" "apart" s_apart f fd) : FnOk P w K mg base (L2.CX P w) 94 f fd ["world", "i", "j"] (spOf K ca 3 m_apart) := by
  have sc := sc_apart
  refine fn_okn (k := 93) (n := 14) (p := 3) (s := b_apart) F sc rfl rfl fun cdv A outer s0 H E hr ok => ?_
  have hu1 := hu1_of hr
  have hu64 := hu64_of hr
  have hu65 := hu65_of hr
  exact (qf_cons (qf_asg (qe_call (ok_touches T) (hr.mono (by decide)) ok (qa_cons (qe_var 0) (qa_cons (qe_var 1) qa_nil)) rfl) (qg_tup rfl (qgs_cons (qg_name 3 sc.nd) (qgs_cons (qg_name 4 sc.nd) (qgs_cons (qg_name 5 sc.nd) (qgs_cons (qg_name 6 sc.nd) (qgs_cons (qg_name 7 sc.nd) (qgs_cons (qg_name 8 sc.nd) qgs_nil))))))))
  (qf_cons (qf_asg (qe_call (ok_touches T) (hr.mono (by decide)) ok (qa_cons (qe_var 0) (qa_cons (qe_var 2) qa_nil)) rfl) (qg_tup rfl (qgs_cons (qg_name 3 sc.nd) (qgs_cons (qg_name 9 sc.nd) (qgs_cons (qg_name 10 sc.nd) (qgs_cons (qg_name 11 sc.nd) (qgs_cons (qg_name 12 sc.nd) (qgs_cons (qg_name 13 sc.nd) qgs_nil))))))))
  (qf_cons (qf_if (qt_w (qw_or (qt_truth (qe_call (ok_meet T) (hr.mono (by decide)) ok (qa_cons (qe_var 5) (qa_cons (qe_op2 d_add (qe_var 9) (qe_var 10)) qa_nil)) rfl)) (qw_or1 (qt_truth (qe_call (ok_meet T) (hr.mono (by decide)) ok (qa_cons (qe_var 10) (qa_cons (qe_var 4) qa_nil)) rfl))))) (qf_one (qf_ret qe_bl)) qf_nil)
  (qf_one (qf_ret (qe_not (qe_or (qe_and (qe_var 6) (qe_one (qe_var 11))) (qe_or (qe_and (qe_var 7) (qe_one (qe_var 12))) (qe_one (qe_and (qe_cmp (d_ne hu64) (qe_var 8) (qe_tup qa_nil (hz := Nat.le_of_ble_eq_true rfl)) rfl) (qe_one (qe_cmp (d_ne hu64) (qe_var 13) (qe_tup qa_nil (hz := Nat.le_of_ble_eq_true rfl)) rfl))))))))))))
theorem ok_apart (T : Tx K mg ca) : Fn P w K mg base ca 94 "apart" ["world", "i", "j"] m_apart := Fn.of T.f_apart (fun _ _ _ _ _ _ us hl => match us, hl with | [_, _, _], _ => rfl) fun f fd F => fn_apart T F
theorem sc__law_sorted : FnScope ["places", "found", "kind", "place", "one"] ["places"] (defScope s__law_sorted) := ⟨rfl, rfl, rfl, by decide +kernel, rfl, by decide +kernel, by decide +kernel⟩
theorem fn__law_sorted (T : Tx K mg ca) {f : Addr} {fd : FuncData} (F : Fun K "_law_sorted" "_law_sorted" s__law_sorted f fd) : FnOk P w K mg base (L2.CX P w) 1 f fd ["places"] (spOf K ca 1 m__law_sorted) := by
  have sc := sc__law_sorted
  refine fn_okn (k := 0) (n := 5) (p := 1) (s := b__law_sorted) F sc rfl rfl fun cdv A outer s0 H E hr ok => ?_
  have hu1 := hu1_of hr
  have hu64 := hu64_of hr
  have hu65 := hu65_of hr
  exact (qf_cons (qf_set 1 sc.nd (qe_new (ql_lst qa_nil (hz := Nat.le_of_ble_eq_true rfl))))
  (qf_cons (qf_for ok (qi_l (ql_lst (qa_cons qe_str (qa_cons qe_str (qa_cons qe_str qa_nil))) (hz := Nat.le_of_ble_eq_true rfl))) (qg_name 2 sc.nd) (qf_one (qf_for ok (qi_l (ql_sortedA (qm_l (ql_comp (t := (.one 4)) (own := [("one", 4)]) rfl sc.nd (qi_e (qe_var 0)) (blkOk_by (N := ["places", "found", "kind", "place", "one"]) (sc := defScope s__law_sorted) (by decide +kernel)) (fun _ _ _ _ _ => pg_name (i := 4) sc.nd rfl (Or.inl rfl)) (fun _ _ _ _ _ => qts_one (qt_cmp (d_eq hu64) (qe_ix hu1 (qe_var 4) qe_int) (qe_var 2) rfl)) (fun _ _ _ _ _ => (qe_var 4)) (by decide))) rfl T.z_sorted)) (qg_name 3 sc.nd) (qf_one (qf_if (qt_cmp (d_notIn' hu65) (qe_var 3) (qe_var 1) rfl) (qf_one (qf_exp (qe_app (qe_var 1) (qe_var 3)))) qf_nil)))))
  (qf_one (qf_ret (qe_tuple (qs_e (qe_var 1)) rfl T.z_tuple)))))
theorem ok__law_sorted (T : Tx K mg ca) : Fn P w K mg base ca 1 "_law_sorted" ["places"] m__law_sorted := Fn.of T.f__law_sorted (fun _ _ _ _ _ _ us hl => match us, hl with | [_], _ => rfl) fun f fd F => fn__law_sorted T F
theorem sc__law_seen : FnScope ["node", "found", "one"] ["node"] (defScope s__law_seen) := ⟨rfl, rfl, rfl, by decide +kernel, rfl, by decide +kernel, by decide +kernel⟩
theorem fg__law_seen (T : Tx K mg ca) : ∀ n : Nat, (∀ {f : Addr} {fd : FuncData}, Fun K "_law_seen" "_law_seen" s__law_seen f fd → FnOk P w K mg base (L2.CX P w) (n + 0) f fd ["node"] (spOf K ca 1 (m__law_seen n))) := by
  intro n
  induction n with
  | zero => exact fun _ => fn_bad
  | succ n ihn =>
    have ih : Fn P w K mg base ca (n + 0) "_law_seen" ["node"] (m__law_seen n) := Fn.of T.f__law_seen (fun _ _ _ _ _ _ us hl => match us, hl with | [_], _ => rfl) fun f fd F => ihn F
    · intro f fd F
      rw [show n + 1 + 0 = n + 0 + 1 by omega]
      have sc := sc__law_seen
      refine fn_okn (k := n + 0) (n := 3) (p := 1) (s := b__law_seen (m__law_seen n)) F sc rfl rfl fun cdv A outer s0 H E hr ok => ?_
      have hu1 := hu1_of hr
      have hu64 := hu64_of hr
      have hu65 := hu65_of hr
      exact (qf_cons (qf_if (qt_w (qw_or (qt_not (qt_truth (qe_isi (t := .tuple) (fun z => nomatch z) (qe_var 0) rfl T.z_isinstance rfl T.z_tuple (by decide +kernel)))) (qw_or1 (qt_cmp (d_eq hu64) (qe_len (qe_var 0) rfl T.z_len) qe_int rfl)))) (qf_one (qf_ret (qe_new (ql_lst qa_nil (hz := Nat.le_of_ble_eq_true rfl))))) qf_nil)
      (qf_cons (qf_if (qt_w (qw_and (qt_truth (qe_isi (t := .str) (fun z => nomatch z) (qe_ix hu1 (qe_var 0) qe_int) rfl T.z_isinstance rfl T.z_str (by decide +kernel))) (qw_and1 (qt_inL hu65 (qe_ix hu1 (qe_var 0) qe_int) (qs_l (ql_lst (qa_cons qe_str (qa_cons qe_str qa_nil)) (hz := Nat.le_of_ble_eq_true rfl))))))) (qf_one (qf_ret (qe_new (ql_lst (qa_cons (qe_var 0) qa_nil) (hz := Nat.le_of_ble_eq_true rfl))))) qf_nil)
      (qf_cons (qf_set 1 sc.nd (qe_new (ql_lst qa_nil (hz := Nat.le_of_ble_eq_true rfl))))
      (qf_cons (qf_for ok (qi_e (qe_slice (qe_var 0) (qo_some (qe_op2 d_mul qe_int (qe_intOf (qe_and (qe_isi (t := .str) (fun z => nomatch z) (qe_ix hu1 (qe_var 0) qe_int) rfl T.z_isinstance rfl T.z_str (by decide +kernel)) (qe_one (qe_cmp (d_eq hu64) (qe_ix hu1 (qe_var 0) qe_int) qe_str rfl))) rfl T.z_int))) qo_none)) (qg_name 2 sc.nd) (qf_one (qf_set 1 sc.nd (qe_op2 d_add (qe_var 1) (qe_call ih hr ok (qa_cons (qe_var 2) qa_nil) rfl)))))
      (qf_one (qf_ret (qe_var 1)))))))
theorem ok__law_seen (T : Tx K mg ca) (n : Nat) : Fn P w K mg base ca (n + 0) "_law_seen" ["node"] (m__law_seen n) := Fn.of T.f__law_seen (fun _ _ _ _ _ _ us hl => match us, hl with | [_], _ => rfl) fun f fd F => (fg__law_seen T n) F
theorem sc__law_nodes : FnScope ["node", "found", "one"] ["node", "found"] (defScope s__law_nodes) := ⟨rfl, rfl, rfl, by decide +kernel, rfl, by decide +kernel, by decide +kernel⟩
theorem fg__law_nodes (T : Tx K mg ca) : ∀ n : Nat, (∀ {f : Addr} {fd : FuncData}, Fun K "_law_nodes" "_law_nodes" s__law_nodes f fd → FnOk P w K mg base (L2.CX P w) (n + 0) f fd ["node", "found"] (spOf K ca 2 (m__law_nodes n))) := by
  intro n
  induction n with
  | zero => exact fun _ => fn_bad
  | succ n ihn =>
    have ih : Fn P w K mg base ca (n + 0) "_law_nodes" ["node", "found"] (m__law_nodes n) := Fn.of T.f__law_nodes (fun _ _ _ _ _ _ us hl => match us, hl with | [_, _], _ => rfl) fun f fd F => ihn F
    · intro f fd F
      rw [show n + 1 + 0 = n + 0 + 1 by omega]
      have sc := sc__law_nodes
      refine fn_okn (k := n + 0) (n := 3) (p := 2) (s := b__law_nodes (m__law_nodes n)) F sc rfl rfl fun cdv A outer s0 H E hr ok => ?_
      have hu1 := hu1_of hr
      have hu64 := hu64_of hr
      have hu65 := hu65_of hr
      exact (qf_cons (qf_if (qt_w (qw_and (qt_truth (qe_isi (t := .tuple) (fun z => nomatch z) (qe_var 0) rfl T.z_isinstance rfl T.z_tuple (by decide +kernel))) (qw_and1 (qt_cmp d_gt (qe_len (qe_var 0) rfl T.z_len) qe_int rfl)))) (qf_cons (qf_if (qt_truth (qe_isi (t := .str) (fun z => nomatch z) (qe_ix hu1 (qe_var 0) qe_int) rfl T.z_isinstance rfl T.z_str (by decide +kernel))) (qf_one (qf_exp (qe_app (qe_var 1) (qe_var 0)))) qf_nil)
      (qf_one (qf_for ok (qi_e (qe_var 0)) (qg_name 2 sc.nd) (qf_one (qf_exp (qe_call ih hr ok (qa_cons (qe_var 2) (qa_cons (qe_var 1) qa_nil)) rfl)))))) qf_nil)
      (qf_one (qf_ret (qe_var 1))))
theorem ok__law_nodes (T : Tx K mg ca) (n : Nat) : Fn P w K mg base ca (n + 0) "_law_nodes" ["node", "found"] (m__law_nodes n) := Fn.of T.f__law_nodes (fun _ _ _ _ _ _ us hl => match us, hl with | [_, _], _ => rfl) fun f fd F => (fg__law_nodes T n) F
theorem sc__law_touches : FnScope ["w", "index", "word", "name", "eaches", "condition", "body", "looks", "changes", "nodes", "targets", "place", "node", "kind", "kinds", "knobs", "t", "f", "b"] ["w", "index"] (defScope s__law_touches) := ⟨rfl, rfl, rfl, by decide +kernel, rfl, by decide +kernel, by decide +kernel⟩
theorem fn__law_touches (T : Tx K mg ca) {f : Addr} {fd : FuncData} (F : Fun K "_law_touches" "_law_touches" s__law_touches f fd) : FnOk P w K mg base (L2.CX P w) 61 f fd ["w", "index"] (spOf K ca 2 m__law_touches) := by
  have sc := sc__law_touches
  refine fn_okn (k := 60) (n := 19) (p := 2) (s := b__law_touches) F sc rfl rfl fun cdv A outer s0 H E hr ok => ?_
  have hu1 := hu1_of hr
  have hu64 := hu64_of hr
  have hu65 := hu65_of hr
  exact (qf_cons (qf_asg (qe_ix hu1 (qe_ix hu1 (qe_var 0) qe_int) (qe_var 1)) (qg_tup rfl (qgs_cons (qg_name 2 sc.nd) (qgs_cons (qg_name 3 sc.nd) (qgs_cons (qg_name 4 sc.nd) (qgs_cons (qg_name 5 sc.nd) (qgs_cons (qg_name 6 sc.nd) qgs_nil)))))))
  (qf_cons (qf_setLc (i := 7) (t := (.one 16)) (own := [("t", 16)]) rfl sc.nd (qi_e (qe_var 4)) (blkOk_by (N := ["w", "index", "word", "name", "eaches", "condition", "body", "looks", "changes", "nodes", "targets", "place", "node", "kind", "kinds", "knobs", "t", "f", "b"]) (sc := defScope s__law_touches) (by decide +kernel)) (fun _ _ _ _ _ => pg_name (i := 16) sc.nd rfl (Or.inl rfl)) (fun _ _ _ _ _ => qts_nil) (fun _ _ _ _ _ => (qe_tup (qa_cons qe_str (qa_cons (qe_var 16) qa_nil)) (hz := Nat.le_of_ble_eq_true rfl))) (by decide))
  (qf_cons (qf_set 8 sc.nd (qe_new (ql_lst qa_nil (hz := Nat.le_of_ble_eq_true rfl))))
  (qf_cons (qf_set 9 sc.nd (qe_call (ok__law_nodes T 60) (hr.mono (by decide)) ok (qa_cons (qe_tup (qa_cons (qe_var 5) (qa_cons (qe_var 6) qa_nil)) (hz := Nat.le_of_ble_eq_true rfl)) (qa_cons (qe_new (ql_lst qa_nil (hz := Nat.le_of_ble_eq_true rfl))) qa_nil)) rfl))
  (qf_cons (qf_setLc (i := 10) (t := (.one 12)) (own := [("node", 12)]) rfl sc.nd (qi_e (qe_var 9)) (blkOk_by (N := ["w", "index", "word", "name", "eaches", "condition", "body", "looks", "changes", "nodes", "targets", "place", "node", "kind", "kinds", "knobs", "t", "f", "b"]) (sc := defScope s__law_touches) (by decide +kernel)) (fun _ _ _ _ _ => pg_name (i := 12) sc.nd rfl (Or.inl rfl)) (fun _ _ _ _ _ => qts_one (qt_cmp (d_eq hu64) (qe_ix hu1 (qe_var 12) qe_int) qe_str rfl)) (fun _ _ _ _ _ => (qe_ix hu1 (qe_var 12) qe_int)) (by decide))
  (qf_cons (qf_for ok (qi_e (qe_var 10)) (qg_name 11 sc.nd) (qf_one (qf_exp (qe_app (qe_var 8) (qe_if (qt_cmp (d_eq hu64) (qe_ix hu1 (qe_var 11) qe_int) qe_str rfl) (qe_var 11) (qe_tup (qa_cons qe_str (qa_cons (qe_ix hu1 (qe_var 4) (qe_ix hu1 (qe_var 11) qe_int)) (qa_cons (qe_ix hu1 (qe_var 11) qe_int) qa_nil))) (hz := Nat.le_of_ble_eq_true rfl)))))))
  (qf_cons (qf_for ok (qi_e (qe_var 9)) (qg_name 12 sc.nd) (qf_cons (qf_set 13 sc.nd (qe_ix hu1 (qe_var 12) qe_int))
  (qf_cons (qf_if (qt_cmp (d_eq hu64) (qe_var 13) qe_str rfl) (qf_cons (qf_exp (qe_app (qe_var 7) (qe_tup (qa_cons qe_str (qa_cons (qe_ix hu1 (qe_var 12) qe_int) qa_nil)) (hz := Nat.le_of_ble_eq_true rfl))))
  (qf_cons (qf_exp (qe_app (qe_var 8) (qe_tup (qa_cons qe_str (qa_cons (qe_ix hu1 (qe_var 12) qe_int) qa_nil)) (hz := Nat.le_of_ble_eq_true rfl))))
  (qf_one (qf_set 8 sc.nd (qe_new (ql_catE (qe_var 8) (qm_l (ql_comp (t := (.one 17)) (own := [("f", 17)]) rfl sc.nd (qi_range1 rfl T.z_range (qe_len (qe_ix hu1 (qe_ix hu1 (qe_ix hu1 (qe_var 0) qe_int) (qe_ix hu1 (qe_var 12) qe_int)) qe_int) rfl T.z_len)) (blkOk_by (N := ["w", "index", "word", "name", "eaches", "condition", "body", "looks", "changes", "nodes", "targets", "place", "node", "kind", "kinds", "knobs", "t", "f", "b"]) (sc := defScope s__law_touches) (by decide +kernel)) (fun _ _ _ _ _ => pg_name (i := 17) sc.nd rfl (Or.inl rfl)) (fun _ _ _ _ _ => qts_nil) (fun _ _ _ _ _ => (qe_tup (qa_cons qe_str (qa_cons (qe_ix hu1 (qe_var 12) qe_int) (qa_cons (qe_var 17) qa_nil))) (hz := Nat.le_of_ble_eq_true rfl))) (by decide))))))))) qf_nil)
  (qf_cons (qf_if (qt_cmp (d_eq hu64) (qe_var 13) qe_str rfl) (qf_one (qf_exp (qe_app (qe_var 8) (qe_tup (qa_cons qe_str (qa_cons (qe_ix hu1 (qe_var 4) (qe_ix hu1 (qe_var 12) qe_int)) qa_nil)) (hz := Nat.le_of_ble_eq_true rfl))))) qf_nil)
  (qf_cons (qf_if (qt_cmp (d_eq hu64) (qe_var 13) qe_str rfl) (qf_one (qf_exp (qe_app (qe_var 7) (qe_tup (qa_cons qe_str (qa_cons (qe_ix hu1 (qe_var 12) qe_int) qa_nil)) (hz := Nat.le_of_ble_eq_true rfl))))) qf_nil)
  (qf_one (qf_if (qt_cmp (d_eq hu64) (qe_var 13) qe_str rfl) (qf_one (qf_exp (qe_app (qe_var 7) (qe_tup (qa_cons qe_str (qa_cons (qe_ix hu1 (qe_var 4) (qe_ix hu1 (qe_var 12) qe_int)) (qa_cons (qe_ix hu1 (qe_var 12) qe_int) qa_nil))) (hz := Nat.le_of_ble_eq_true rfl))))) qf_nil)))))))
  (qf_cons (qf_for ok (qi_e (qe_call (ok__law_seen T 60) (hr.mono (by decide)) ok (qa_cons (qe_tup (qa_cons (qe_var 5) (qa_cons (qe_var 6) qa_nil)) (hz := Nat.le_of_ble_eq_true rfl)) qa_nil) rfl)) (qg_name 11 sc.nd) (qf_one (qf_exp (qe_app (qe_var 7) (qe_if (qt_cmp (d_eq hu64) (qe_ix hu1 (qe_var 11) qe_int) qe_str rfl) (qe_var 11) (qe_tup (qa_cons qe_str (qa_cons (qe_ix hu1 (qe_var 4) (qe_ix hu1 (qe_var 11) qe_int)) (qa_cons (qe_ix hu1 (qe_var 11) qe_int) qa_nil))) (hz := Nat.le_of_ble_eq_true rfl)))))))
  (qf_cons (qf_setLc (i := 14) (t := (.one 12)) (own := [("node", 12)]) rfl sc.nd (qi_e (qe_var 9)) (blkOk_by (N := ["w", "index", "word", "name", "eaches", "condition", "body", "looks", "changes", "nodes", "targets", "place", "node", "kind", "kinds", "knobs", "t", "f", "b"]) (sc := defScope s__law_touches) (by decide +kernel)) (fun _ _ _ _ _ => pg_name (i := 12) sc.nd rfl (Or.inl rfl)) (fun _ _ _ _ _ => qts_nil) (fun _ _ _ _ _ => (qe_ix hu1 (qe_var 12) qe_int)) (by decide))
  (qf_cons (qf_set 15 sc.nd (qe_tuple (qs_l (ql_sortedA (qm_l (ql_comp (t := (.one 18)) (own := [("b", 18)]) rfl sc.nd (qi_range1 rfl T.z_range (qe_len (qe_ix hu1 (qe_var 0) qe_int) rfl T.z_len)) (blkOk_by (N := ["w", "index", "word", "name", "eaches", "condition", "body", "looks", "changes", "nodes", "targets", "place", "node", "kind", "kinds", "knobs", "t", "f", "b"]) (sc := defScope s__law_touches) (by decide +kernel)) (fun _ _ _ _ _ => pg_name (i := 18) sc.nd rfl (Or.inl rfl)) (fun _ _ _ _ _ => qts_one (qt_inL hu65 (qe_var 18) (qs_l (ql_comp (t := (.one 12)) (own := [("node", 12)]) rfl sc.nd (qi_e (qe_var 9)) (blkOk_by (by rfl)) (fun _ _ _ _ _ => pg_name (i := 12) sc.nd rfl (Or.inl rfl)) (fun _ _ _ _ _ => qts_one (qt_cmp (d_eq hu64) (qe_ix hu1 (qe_var 12) qe_int) qe_str rfl)) (fun _ _ _ _ _ => (qe_ix hu1 (qe_var 12) qe_int)) (by decide))))) (fun _ _ _ _ _ => (qe_var 18)) (by decide))) rfl T.z_sorted)) rfl T.z_tuple))
  (qf_one (qf_ret (qe_tup (qa_cons qe_str (qa_cons (qe_call (ok__law_sorted T) (hr.mono (by decide)) ok (qa_cons (qe_var 7) qa_nil) rfl) (qa_cons (qe_call (ok__law_sorted T) (hr.mono (by decide)) ok (qa_cons (qe_var 8) qa_nil) rfl) (qa_cons (qe_cmp (d_in' hu65) qe_str (qe_var 14) rfl) (qa_cons (qe_cmp (d_in' hu65) qe_str (qe_var 14) rfl) (qa_cons (qe_var 15) qa_nil)))))) (hz := Nat.le_of_ble_eq_true rfl))))))))))))))
theorem ok__law_touches (T : Tx K mg ca) : Fn P w K mg base ca 61 "_law_touches" ["w", "index"] m__law_touches := Fn.of T.f__law_touches (fun _ _ _ _ _ _ us hl => match us, hl with | [_, _], _ => rfl) fun f fd F => fn__law_touches T F
theorem sc__law_apart : FnScope ["w", "i", "j", "one", "other", "shared", "place"] ["w", "i", "j"] (defScope s__law_apart) := ⟨rfl, rfl, rfl, by decide +kernel, rfl, by decide +kernel, by decide +kernel⟩
theorem fn__law_apart (T : Tx K mg ca) {f : Addr} {fd : FuncData} (F : Fun K "_law_apart" "_law_apart" s__law_apart f fd) : FnOk P w K mg base (L2.CX P w) 62 f fd ["w", "i", "j"] (spOf K ca 3 m__law_apart) := by
  have sc := sc__law_apart
  refine fn_okn (k := 61) (n := 7) (p := 3) (s := b__law_apart) F sc rfl rfl fun cdv A outer s0 H E hr ok => ?_
  have hu1 := hu1_of hr
  have hu64 := hu64_of hr
  have hu65 := hu65_of hr
  exact (qf_cons (qf_set 3 sc.nd (qe_call (ok__law_touches T) (hr.mono (by decide)) ok (qa_cons (qe_var 0) (qa_cons (qe_var 1) qa_nil)) rfl))
  (qf_cons (qf_set 4 sc.nd (qe_call (ok__law_touches T) (hr.mono (by decide)) ok (qa_cons (qe_var 0) (qa_cons (qe_var 2) qa_nil)) rfl))
  (qf_cons (qf_set 5 sc.nd (qe_new (ql_catL (ql_comp (t := (.one 6)) (own := [("place", 6)]) rfl sc.nd (qi_e (qe_ix hu1 (qe_var 3) qe_int)) (blkOk_by (N := ["w", "i", "j", "one", "other", "shared", "place"]) (sc := defScope s__law_apart) (by decide +kernel)) (fun _ _ _ _ _ => pg_name (i := 6) sc.nd rfl (Or.inl rfl)) (fun _ _ _ _ _ => qts_one (qt_cmp (d_in' hu65) (qe_var 6) (qe_op2 d_add (qe_ix hu1 (qe_var 4) qe_int) (qe_ix hu1 (qe_var 4) qe_int)) rfl)) (fun _ _ _ _ _ => (qe_var 6)) (by decide)) (qm_l (ql_comp (t := (.one 6)) (own := [("place", 6)]) rfl sc.nd (qi_e (qe_ix hu1 (qe_var 4) qe_int)) (blkOk_by (N := ["w", "i", "j", "one", "other", "shared", "place"]) (sc := defScope s__law_apart) (by decide +kernel)) (fun _ _ _ _ _ => pg_name (i := 6) sc.nd rfl (Or.inl rfl)) (fun _ _ _ _ _ => qts_one (qt_cmp (d_in' hu65) (qe_var 6) (qe_ix hu1 (qe_var 3) qe_int) rfl)) (fun _ _ _ _ _ => (qe_var 6)) (by decide))))))
  (qf_cons (qf_if (qt_w (qw_or (qt_cmp d_gt (qe_len (qe_var 5) rfl T.z_len) qe_int rfl) (qw_or (qt_w (qw_and (qt_truth (qe_ix hu1 (qe_var 3) qe_int)) (qw_and1 (qt_truth (qe_ix hu1 (qe_var 4) qe_int))))) (qw_or1 (qt_w (qw_and (qt_truth (qe_ix hu1 (qe_var 3) qe_int)) (qw_and1 (qt_truth (qe_ix hu1 (qe_var 4) qe_int))))))))) (qf_one (qf_ret qe_bl)) qf_nil)
  (qf_one (qf_ret (qe_or (qe_cmp (d_eq hu64) (qe_ix hu1 (qe_var 3) qe_int) (qe_tup qa_nil (hz := Nat.le_of_ble_eq_true rfl)) rfl) (qe_one (qe_cmp (d_eq hu64) (qe_ix hu1 (qe_var 4) qe_int) (qe_tup qa_nil (hz := Nat.le_of_ble_eq_true rfl)) rfl)))))))))
theorem ok__law_apart (T : Tx K mg ca) : Fn P w K mg base ca 62 "_law_apart" ["w", "i", "j"] m__law_apart := Fn.of T.f__law_apart (fun _ _ _ _ _ _ us hl => match us, hl with | [_, _, _], _ => rfl) fun f fd F => fn__law_apart T F
theorem sc__law_draw : FnScope ["bag", "many", "seed", "rest"] ["bag", "many"] (defScope s__law_draw) := ⟨rfl, rfl, rfl, by decide +kernel, rfl, by decide +kernel, by decide +kernel⟩
theorem fn__law_draw (T : Tx K mg ca) {f : Addr} {fd : FuncData} (F : Fun K "_law_draw" "_law_draw" s__law_draw f fd) : FnOk P w K mg base (L2.CX P w) 1 f fd ["bag", "many"] (spOf K ca 2 m__law_draw) := by
  have sc := sc__law_draw
  refine fn_okn (k := 0) (n := 4) (p := 2) (s := b__law_draw) F sc rfl rfl fun cdv A outer s0 H E hr ok => ?_
  have hu1 := hu1_of hr
  have hu64 := hu64_of hr
  have hu65 := hu65_of hr
  exact (qf_cons (qf_if (qt_cmp d_lt (qe_var 1) qe_int rfl) (qf_one (qf_ret qe_int)) qf_nil)
  (qf_cons (qf_if (qt_cmp (d_eq hu64) (qe_ix hu1 (qe_var 0) qe_int) qe_int rfl) (qf_cons (qf_sub hu1 (qe_var 0) qe_int (qe_op2 d_add (qe_ix hu1 (qe_var 0) qe_int) qe_int))
  (qf_cons (qf_set 2 sc.nd (qe_op2 d_mod (qe_intOf (qe_op2 d_add (qe_op2 d_add (qe_op2 d_add (qe_op2 d_mul (qe_ix hu1 (qe_var 0) qe_int) qe_int) (qe_op2 d_mul (qe_ix hu1 (qe_var 0) qe_int) qe_int)) (qe_op2 d_mul (qe_ix hu1 (qe_var 0) qe_int) qe_int)) qe_int) rfl T.z_int) qe_int))
  (qf_cons (qf_sub hu1 (qe_var 0) qe_int (qe_op2 d_add (qe_op2 d_mul (qe_var 2) qe_int) (qe_op2 d_mod (qe_intOf (qe_op2 d_add (qe_op2 d_mul (qe_var 2) (qe_var 2)) (qe_ix hu1 (qe_var 0) qe_int)) rfl T.z_int) qe_int)))
  (qf_cons (qf_if (qt_w (qw_and (qt_cmp (d_eq hu64) (qe_ix hu1 (qe_var 0) qe_int) qe_int rfl) (qw_and1 (qt_cmp d_ge (qe_ix hu1 (qe_var 0) qe_int) (qe_op2 d_pow qe_int qe_int) rfl)))) (qf_one (qf_sub hu1 (qe_var 0) qe_int (qe_ix hu1 (qe_var 0) qe_int))) qf_nil)
  (qf_one (qf_sub hu1 (qe_var 0) qe_int (qe_var 2))))))) qf_nil)
  (qf_cons (qf_set 3 sc.nd (qe_ix hu1 (qe_var 0) qe_int))
  (qf_cons (qf_sub hu1 (qe_var 0) qe_int (qe_op2 d_fdiv (qe_var 3) (qe_var 1)))
  (qf_one (qf_ret (qe_op2 d_mod (qe_intOf (qe_var 3) rfl T.z_int) (qe_var 1))))))))
theorem ok__law_draw (T : Tx K mg ca) : Fn P w K mg base ca 1 "_law_draw" ["bag", "many"] m__law_draw := Fn.of T.f__law_draw (fun _ _ _ _ _ _ us hl => match us, hl with | [_, _], _ => rfl) fun f fd F => fn__law_draw T F
theorem sc__law_same : FnScope ["one", "other", "k"] ["one", "other"] (defScope s__law_same) := ⟨rfl, rfl, rfl, by decide +kernel, rfl, by decide +kernel, by decide +kernel⟩
theorem fg__law_same (T : Tx K mg ca) : ∀ n : Nat, (∀ {f : Addr} {fd : FuncData}, Fun K "_law_same" "_law_same" s__law_same f fd → FnOk P w K mg base (L2.CX P w) (n + 0) f fd ["one", "other"] (spOf K ca 2 (m__law_same n))) := by
  intro n
  induction n with
  | zero => exact fun _ => fn_bad
  | succ n ihn =>
    have ih : Fn P w K mg base ca (n + 0) "_law_same" ["one", "other"] (m__law_same n) := Fn.of T.f__law_same (fun _ _ _ _ _ _ us hl => match us, hl with | [_, _], _ => rfl) fun f fd F => ihn F
    · intro f fd F
      rw [show n + 1 + 0 = n + 0 + 1 by omega]
      have sc := sc__law_same
      refine fn_okn (k := n + 0) (n := 3) (p := 2) (s := b__law_same (m__law_same n)) F sc rfl rfl fun cdv A outer s0 H E hr ok => ?_
      have hu1 := hu1_of hr
      have hu64 := hu64_of hr
      have hu65 := hu65_of hr
      exact (qf_cons (qf_if (qt_truth (qe_isi (t := .tuple) (fun z => nomatch z) (qe_var 0) rfl T.z_isinstance rfl T.z_tuple (by decide +kernel))) (qf_one (qf_ret (qe_and (qe_isi (t := .tuple) (fun z => nomatch z) (qe_var 1) rfl T.z_isinstance rfl T.z_tuple (by decide +kernel)) (qe_and (qe_cmp (d_eq hu64) (qe_len (qe_var 0) rfl T.z_len) (qe_len (qe_var 1) rfl T.z_len) rfl) (qe_one (qe_notInL hu65 qe_bl (qs_l (ql_comp (t := (.one 2)) (own := [("k", 2)]) rfl sc.nd (qi_range1 rfl T.z_range (qe_len (qe_var 0) rfl T.z_len)) (blkOk_by (N := ["one", "other", "k"]) (sc := defScope s__law_same) (by decide +kernel)) (fun _ _ _ _ _ => pg_name (i := 2) sc.nd rfl (Or.inl rfl)) (fun _ _ _ _ _ => qts_nil) (fun _ _ _ _ _ => (qe_call ih hr (Ok.blk rfl) (qa_cons (qe_ix hu1 (qe_var 0) (qe_var 2)) (qa_cons (qe_ix hu1 (qe_var 1) (qe_var 2)) qa_nil)) rfl)) (by decide))))))))) qf_nil)
      (qf_cons (qf_if (qt_cmp d_isN (qe_var 0) qe_non rfl) (qf_one (qf_ret (qe_cmp d_isN (qe_var 1) qe_non rfl))) qf_nil)
      (qf_cons (qf_if (qt_truth (qe_isi (t := .str) (fun z => nomatch z) (qe_var 0) rfl T.z_isinstance rfl T.z_str (by decide +kernel))) (qf_one (qf_ret (qe_and (qe_isi (t := .str) (fun z => nomatch z) (qe_var 1) rfl T.z_isinstance rfl T.z_str (by decide +kernel)) (qe_one (qe_cmp (d_eq hu64) (qe_var 0) (qe_var 1) rfl))))) qf_nil)
      (qf_one (qf_ret (qe_and (qe_isi (t := .int) (fun z => nomatch z) (qe_var 1) rfl T.z_isinstance rfl T.z_int (by decide +kernel)) (qe_and (qe_not (qe_isi (t := .bool) (fun z => nomatch z) (qe_var 1) rfl T.z_isinstance rfl T.z_bool (by decide +kernel))) (qe_one (qe_cmp (d_eq hu64) (qe_var 0) (qe_var 1) rfl)))))))))
theorem ok__law_same (T : Tx K mg ca) (n : Nat) : Fn P w K mg base ca (n + 0) "_law_same" ["one", "other"] (m__law_same n) := Fn.of T.f__law_same (fun _ _ _ _ _ _ us hl => match us, hl with | [_, _], _ => rfl) fun f fd F => (fg__law_same T n) F
theorem sc__law_alike : FnScope ["one", "other"] ["one", "other"] (defScope s__law_alike) := ⟨rfl, rfl, rfl, by decide +kernel, rfl, by decide +kernel, by decide +kernel⟩
theorem fn__law_alike (T : Tx K mg ca) {f : Addr} {fd : FuncData} (F : Fun K "_law_alike" "_law_alike" s__law_alike f fd) : FnOk P w K mg base (L2.CX P w) 5 f fd ["one", "other"] (spOf K ca 2 m__law_alike) := by
  have sc := sc__law_alike
  refine fn_okn (k := 4) (n := 2) (p := 2) (s := b__law_alike) F sc rfl rfl fun cdv A outer s0 H E hr ok => ?_
  have hu1 := hu1_of hr
  have hu64 := hu64_of hr
  have hu65 := hu65_of hr
  exact (qf_cons (qf_if (qt_w (qw_or (qt_not (qt_truth (qe_isi (t := .tuple) (fun z => nomatch z) (qe_var 1) rfl T.z_isinstance rfl T.z_tuple (by decide +kernel)))) (qw_or (qt_cmp (d_ne hu64) (qe_len (qe_var 1) rfl T.z_len) qe_int rfl) (qw_or1 (qt_cmp (d_ne hu64) (qe_new (ql_lst (qa_cons (qe_repr (qe_ix hu1 (qe_var 1) qe_int) rfl T.z_repr) (qa_cons (qe_repr (qe_ix hu1 (qe_var 1) qe_int) rfl T.z_repr) qa_nil)) (hz := Nat.le_of_ble_eq_true rfl))) (qe_new (ql_lst (qa_cons (qe_repr (qe_ix hu1 (qe_var 0) qe_int) rfl T.z_repr) (qa_cons (qe_repr (qe_ix hu1 (qe_var 0) qe_int) rfl T.z_repr) qa_nil)) (hz := Nat.le_of_ble_eq_true rfl))) rfl))))) (qf_one (qf_ret qe_bl)) qf_nil)
  (qf_one (qf_ret (qe_call (ok__law_same T 4) (hr.mono (by decide)) ok (qa_cons (qe_op2 d_add (qe_slice (qe_var 0) qo_none (qo_some qe_int)) (qe_slice (qe_var 0) (qo_some qe_int) qo_none)) (qa_cons (qe_op2 d_add (qe_slice (qe_var 1) qo_none (qo_some qe_int)) (qe_slice (qe_var 1) (qo_some qe_int) qo_none)) qa_nil)) rfl))))
theorem ok__law_alike (T : Tx K mg ca) : Fn P w K mg base ca 5 "_law_alike" ["one", "other"] m__law_alike := Fn.of T.f__law_alike (fun _ _ _ _ _ _ us hl => match us, hl with | [_, _], _ => rfl) fun f fd F => fn__law_alike T F
theorem sc__law_leaf : FnScope ["bag", "w", "eaches", "pick", "k"] ["bag", "w", "eaches"] (defScope s__law_leaf) := ⟨rfl, rfl, rfl, by decide +kernel, rfl, by decide +kernel, by decide +kernel⟩
theorem fn__law_leaf (T : Tx K mg ca) {f : Addr} {fd : FuncData} (F : Fun K "_law_leaf" "_law_leaf" s__law_leaf f fd) : FnOk P w K mg base (L2.CX P w) 2 f fd ["bag", "w", "eaches"] (spOf K ca 3 m__law_leaf) := by
  have sc := sc__law_leaf
  refine fn_okn (k := 1) (n := 5) (p := 3) (s := b__law_leaf) F sc rfl rfl fun cdv A outer s0 H E hr ok => ?_
  have hu1 := hu1_of hr
  have hu64 := hu64_of hr
  have hu65 := hu65_of hr
  exact (qf_cons (qf_set 3 sc.nd (qe_call (ok__law_draw T) (hr.mono (by decide)) ok (qa_cons (qe_var 0) (qa_cons qe_int qa_nil)) rfl))
  (qf_cons (qf_if (qt_w (qw_and (qt_cmp (d_eq hu64) (qe_var 3) qe_int rfl) (qw_and1 (qt_cmp d_gt (qe_len (qe_ix hu1 (qe_var 1) qe_int) rfl T.z_len) qe_int rfl)))) (qf_one (qf_ret (qe_tup (qa_cons qe_str (qa_cons (qe_call (ok__law_draw T) (hr.mono (by decide)) ok (qa_cons (qe_var 0) (qa_cons (qe_len (qe_ix hu1 (qe_var 1) qe_int) rfl T.z_len) qa_nil)) rfl) qa_nil)) (hz := Nat.le_of_ble_eq_true rfl)))) qf_nil)
  (qf_cons (qf_if (qt_w (qw_and (qt_cmp d_lt (qe_var 3) qe_int rfl) (qw_and1 (qt_cmp d_gt (qe_len (qe_var 2) rfl T.z_len) qe_int rfl)))) (qf_cons (qf_set 4 sc.nd (qe_call (ok__law_draw T) (hr.mono (by decide)) ok (qa_cons (qe_var 0) (qa_cons (qe_len (qe_var 2) rfl T.z_len) qa_nil)) rfl))
  (qf_one (qf_ret (qe_tup (qa_cons qe_str (qa_cons (qe_var 4) (qa_cons (qe_call (ok__law_draw T) (hr.mono (by decide)) ok (qa_cons (qe_var 0) (qa_cons (qe_len (qe_ix hu1 (qe_ix hu1 (qe_ix hu1 (qe_var 1) qe_int) (qe_ix hu1 (qe_var 2) (qe_var 4))) qe_int) rfl T.z_len) qa_nil)) rfl) qa_nil))) (hz := Nat.le_of_ble_eq_true rfl))))) qf_nil)
  (qf_cons (qf_if (qt_w (qw_and (qt_cmp (d_eq hu64) (qe_var 3) qe_int rfl) (qw_and1 (qt_cmp d_gt (qe_len (qe_ix hu1 (qe_var 1) qe_int) rfl T.z_len) qe_int rfl)))) (qf_one (qf_ret (qe_tup (qa_cons qe_str (qa_cons (qe_call (ok__law_draw T) (hr.mono (by decide)) ok (qa_cons (qe_var 0) (qa_cons (qe_len (qe_ix hu1 (qe_var 1) qe_int) rfl T.z_len) qa_nil)) rfl) qa_nil)) (hz := Nat.le_of_ble_eq_true rfl)))) qf_nil)
  (qf_cons (qf_if (qt_cmp (d_eq hu64) (qe_var 3) qe_int rfl) (qf_one (qf_ret (qe_tup (qa_cons qe_str qa_nil) (hz := Nat.le_of_ble_eq_true rfl)))) qf_nil)
  (qf_one (qf_ret (qe_tup (qa_cons qe_str (qa_cons (qe_ixL (ql_lst (qa_cons qe_int (qa_cons qe_int (qa_cons qe_int (qa_cons qe_int (qa_cons qe_int (qa_cons qe_int (qa_cons qe_int (qa_cons (qe_call (ok__law_draw T) (hr.mono (by decide)) ok (qa_cons (qe_var 0) (qa_cons qe_int qa_nil)) rfl) qa_nil)))))))) (hz := Nat.le_of_ble_eq_true rfl)) (qe_call (ok__law_draw T) (hr.mono (by decide)) ok (qa_cons (qe_var 0) (qa_cons qe_int qa_nil)) rfl)) qa_nil)) (hz := Nat.le_of_ble_eq_true rfl)))))))))
theorem ok__law_leaf (T : Tx K mg ca) : Fn P w K mg base ca 2 "_law_leaf" ["bag", "w", "eaches"] m__law_leaf := Fn.of T.f__law_leaf (fun _ _ _ _ _ _ us hl => match us, hl with | [_, _, _], _ => rfl) fun f fd F => fn__law_leaf T F
theorem sc__law_e : FnScope ["bag", "w", "eaches", "depth", "pick", "k", "signs", "one"] ["bag", "w", "eaches", "depth"] (defScope s__law_e) := ⟨rfl, rfl, rfl, by decide +kernel, rfl, by decide +kernel, by decide +kernel⟩
theorem fg__law_e (T : Tx K mg ca) : ∀ n : Nat, (∀ {f : Addr} {fd : FuncData}, Fun K "_law_e" "_law_e" s__law_e f fd → FnOk P w K mg base (L2.CX P w) (n + 2) f fd ["bag", "w", "eaches", "depth"] (spOf K ca 4 (m__law_e n))) := by
  intro n
  induction n with
  | zero => exact fun _ => fn_bad
  | succ n ihn =>
    have ih : Fn P w K mg base ca (n + 2) "_law_e" ["bag", "w", "eaches", "depth"] (m__law_e n) := Fn.of T.f__law_e (fun _ _ _ _ _ _ us hl => match us, hl with | [_, _, _, _], _ => rfl) fun f fd F => ihn F
    · intro f fd F
      rw [show n + 1 + 2 = n + 2 + 1 by omega]
      have sc := sc__law_e
      refine fn_okn (k := n + 2) (n := 8) (p := 4) (s := b__law_e (m__law_e n)) F sc rfl rfl fun cdv A outer s0 H E hr ok => ?_
      have hu1 := hu1_of hr
      have hu64 := hu64_of hr
      have hu65 := hu65_of hr
      exact (qf_cons (qf_set 4 sc.nd (qe_call (ok__law_draw T) (hr.mono (by omega)) ok (qa_cons (qe_var 0) (qa_cons qe_int qa_nil)) rfl))
      (qf_cons (qf_if (qt_w (qw_or (qt_cmp d_lt (qe_var 3) qe_int rfl) (qw_or1 (qt_cmp d_lt (qe_var 4) qe_int rfl)))) (qf_one (qf_ret (qe_call (ok__law_leaf T) (hr.mono (by omega)) ok (qa_cons (qe_var 0) (qa_cons (qe_var 1) (qa_cons (qe_var 2) qa_nil))) rfl))) qf_nil)
      (qf_cons (qf_if (qt_cmp (d_eq hu64) (qe_var 4) qe_int rfl) (qf_one (qf_ret (qe_tup (qa_cons qe_str (qa_cons (qe_call ih hr ok (qa_cons (qe_var 0) (qa_cons (qe_var 1) (qa_cons (qe_var 2) (qa_cons (qe_op2 d_sub (qe_var 3) qe_int) qa_nil)))) rfl) qa_nil)) (hz := Nat.le_of_ble_eq_true rfl)))) qf_nil)
      (qf_cons (qf_if (qt_cmp (d_eq hu64) (qe_var 4) qe_int rfl) (qf_one (qf_ret (qe_tup (qa_cons qe_str (qa_cons (qe_call ih hr ok (qa_cons (qe_var 0) (qa_cons (qe_var 1) (qa_cons (qe_var 2) (qa_cons (qe_op2 d_sub (qe_var 3) qe_int) qa_nil)))) rfl) qa_nil)) (hz := Nat.le_of_ble_eq_true rfl)))) qf_nil)
      (qf_cons (qf_if (qt_cmp (d_eq hu64) (qe_var 4) qe_int rfl) (qf_one (qf_ret (qe_tup (qa_cons qe_str (qa_cons (qe_call ih hr ok (qa_cons (qe_var 0) (qa_cons (qe_var 1) (qa_cons (qe_var 2) (qa_cons (qe_op2 d_sub (qe_var 3) qe_int) qa_nil)))) rfl) (qa_cons (qe_call (ok__law_draw T) (hr.mono (by omega)) ok (qa_cons (qe_var 0) (qa_cons (qe_len (qe_ix hu1 (qe_var 1) qe_int) rfl T.z_len) qa_nil)) rfl) qa_nil))) (hz := Nat.le_of_ble_eq_true rfl)))) qf_nil)
      (qf_cons (qf_if (qt_w (qw_and (qt_cmp (d_eq hu64) (qe_var 4) qe_int rfl) (qw_and1 (qt_cmp d_gt (qe_len (qe_var 2) rfl T.z_len) qe_int rfl)))) (qf_cons (qf_set 5 sc.nd (qe_call (ok__law_draw T) (hr.mono (by omega)) ok (qa_cons (qe_var 0) (qa_cons (qe_len (qe_var 2) rfl T.z_len) qa_nil)) rfl))
      (qf_one (qf_ret (qe_tup (qa_cons qe_str (qa_cons (qe_var 5) (qa_cons (qe_call (ok__law_draw T) (hr.mono (by omega)) ok (qa_cons (qe_var 0) (qa_cons (qe_len (qe_ix hu1 (qe_ix hu1 (qe_ix hu1 (qe_var 1) qe_int) (qe_ix hu1 (qe_var 2) (qe_var 5))) qe_int) rfl T.z_len) qa_nil)) rfl) (qa_cons (qe_call ih hr ok (qa_cons (qe_var 0) (qa_cons (qe_var 1) (qa_cons (qe_var 2) (qa_cons (qe_op2 d_sub (qe_var 3) qe_int) qa_nil)))) rfl) qa_nil)))) (hz := Nat.le_of_ble_eq_true rfl))))) qf_nil)
      (qf_cons (qf_set 6 sc.nd (qe_new (ql_lst (qa_cons qe_str (qa_cons qe_str (qa_cons qe_str (qa_cons qe_str (qa_cons qe_str (qa_cons qe_str (qa_cons qe_str (qa_cons qe_str (qa_cons qe_str (qa_cons qe_str (qa_cons qe_str (qa_cons qe_str (qa_cons qe_str qa_nil))))))))))))) (hz := Nat.le_of_ble_eq_true rfl))))
      (qf_cons (qf_set 7 sc.nd (qe_call ih hr ok (qa_cons (qe_var 0) (qa_cons (qe_var 1) (qa_cons (qe_var 2) (qa_cons (qe_op2 d_sub (qe_var 3) qe_int) qa_nil)))) rfl))
      (qf_one (qf_ret (qe_tup (qa_cons qe_str (qa_cons (qe_ix hu1 (qe_var 6) (qe_call (ok__law_draw T) (hr.mono (by omega)) ok (qa_cons (qe_var 0) (qa_cons qe_int qa_nil)) rfl)) (qa_cons (qe_var 7) (qa_cons (qe_call ih hr ok (qa_cons (qe_var 0) (qa_cons (qe_var 1) (qa_cons (qe_var 2) (qa_cons (qe_op2 d_sub (qe_var 3) qe_int) qa_nil)))) rfl) qa_nil)))) (hz := Nat.le_of_ble_eq_true rfl))))))))))))
theorem ok__law_e (T : Tx K mg ca) (n : Nat) : Fn P w K mg base ca (n + 2) "_law_e" ["bag", "w", "eaches", "depth"] (m__law_e n) := Fn.of T.f__law_e (fun _ _ _ _ _ _ us hl => match us, hl with | [_, _, _, _], _ => rfl) fun f fd F => (fg__law_e T n) F
theorem sc__law_s : FnScope ["bag", "w", "eaches", "depth", "pick", "k", "place", "t", "e", "field"] ["bag", "w", "eaches", "depth"] (defScope s__law_s) := ⟨rfl, rfl, rfl, by decide +kernel, rfl, by decide +kernel, by decide +kernel⟩
theorem sc__law_b : FnScope ["bag", "w", "eaches", "depth", "many", "k"] ["bag", "w", "eaches", "depth", "many"] (defScope s__law_b) := ⟨rfl, rfl, rfl, by decide +kernel, rfl, by decide +kernel, by decide +kernel⟩
theorem fg__law_s (T : Tx K mg ca) : ∀ n : Nat, (∀ {f : Addr} {fd : FuncData}, Fun K "_law_s" "_law_s" s__law_s f fd → FnOk P w K mg base (L2.CX P w) (n + 14) f fd ["bag", "w", "eaches", "depth"] (spOf K ca 4 (r__law_s n 0))) ∧ (∀ {f : Addr} {fd : FuncData}, Fun K "_law_b" "_law_b" s__law_b f fd → FnOk P w K mg base (L2.CX P w) (n + 14) f fd ["bag", "w", "eaches", "depth", "many"] (spOf K ca 5 (r__law_s n 1))) := by
  intro n
  induction n with
  | zero => exact ⟨fun _ => fn_bad, fun _ => fn_bad⟩
  | succ n ihn =>
    have ih0 : Fn P w K mg base ca (n + 14) "_law_s" ["bag", "w", "eaches", "depth"] (r__law_s n 0) := Fn.of T.f__law_s (fun _ _ _ _ _ _ us hl => match us, hl with | [_, _, _, _], _ => rfl) fun f fd F => ihn.1 F
    have ih1 : Fn P w K mg base ca (n + 14) "_law_b" ["bag", "w", "eaches", "depth", "many"] (r__law_s n 1) := Fn.of T.f__law_b (fun _ _ _ _ _ _ us hl => match us, hl with | [_, _, _, _, _], _ => rfl) fun f fd F => ihn.2 F
    refine ⟨?_, ?_⟩
    · intro f fd F
      rw [show n + 1 + 14 = n + 14 + 1 by omega]
      have sc := sc__law_s
      refine fn_okn (k := n + 14) (n := 10) (p := 4) (s := b__law_s (r__law_s n)) F sc rfl rfl fun cdv A outer s0 H E hr ok => ?_
      have hu1 := hu1_of hr
      have hu64 := hu64_of hr
      have hu65 := hu65_of hr
      exact (qf_cons (qf_set 4 sc.nd (qe_call (ok__law_draw T) (hr.mono (by omega)) ok (qa_cons (qe_var 0) (qa_cons qe_int qa_nil)) rfl))
      (qf_cons (qf_if (qt_w (qw_and (qt_cmp d_lt (qe_var 4) qe_int rfl) (qw_and1 (qt_cmp d_gt (qe_len (qe_var 2) rfl T.z_len) qe_int rfl)))) (qf_cons (qf_set 5 sc.nd (qe_call (ok__law_draw T) (hr.mono (by omega)) ok (qa_cons (qe_var 0) (qa_cons (qe_len (qe_var 2) rfl T.z_len) qa_nil)) rfl))
      (qf_cons (qf_set 6 sc.nd (qe_tup (qa_cons qe_str (qa_cons (qe_var 5) (qa_cons (qe_call (ok__law_draw T) (hr.mono (by omega)) ok (qa_cons (qe_var 0) (qa_cons (qe_len (qe_ix hu1 (qe_ix hu1 (qe_ix hu1 (qe_var 1) qe_int) (qe_ix hu1 (qe_var 2) (qe_var 5))) qe_int) rfl T.z_len) qa_nil)) rfl) qa_nil))) (hz := Nat.le_of_ble_eq_true rfl)))
      (qf_one (qf_ret (qe_tup (qa_cons qe_str (qa_cons (qe_var 6) (qa_cons (qe_call (ok__law_e T 12) (hr.mono (by omega)) ok (qa_cons (qe_var 0) (qa_cons (qe_var 1) (qa_cons (qe_var 2) (qa_cons (qe_op2 d_sub (qe_var 3) qe_int) qa_nil)))) rfl) qa_nil))) (hz := Nat.le_of_ble_eq_true rfl)))))) qf_nil)
      (qf_cons (qf_if (qt_w (qw_and (qt_cmp d_lt (qe_var 4) qe_int rfl) (qw_and1 (qt_cmp d_gt (qe_len (qe_ix hu1 (qe_var 1) qe_int) rfl T.z_len) qe_int rfl)))) (qf_cons (qf_set 7 sc.nd (qe_call (ok__law_draw T) (hr.mono (by omega)) ok (qa_cons (qe_var 0) (qa_cons (qe_len (qe_ix hu1 (qe_var 1) qe_int) rfl T.z_len) qa_nil)) rfl))
      (qf_one (qf_ret (qe_tup (qa_cons qe_str (qa_cons (qe_var 7) (qa_cons (qe_tuple (qs_l (ql_comp (t := (.one 9)) (own := [("field", 9)]) rfl sc.nd (qi_e (qe_ix hu1 (qe_ix hu1 (qe_ix hu1 (qe_var 1) qe_int) (qe_var 7)) qe_int)) (blkOk_by (N := ["bag", "w", "eaches", "depth", "pick", "k", "place", "t", "e", "field"]) (sc := defScope s__law_s) (by decide +kernel)) (fun _ _ _ _ _ => pg_name (i := 9) sc.nd rfl (Or.inl rfl)) (fun _ _ _ _ _ => qts_nil) (fun _ _ _ _ _ => (qe_call (ok__law_e T 12) (hr.mono (by omega)) (Ok.blk rfl) (qa_cons (qe_var 0) (qa_cons (qe_var 1) (qa_cons (qe_var 2) (qa_cons (qe_min2 rfl qe_int (qe_op2 d_sub (qe_var 3) qe_int) rfl T.z_min) qa_nil)))) rfl)) (by decide))) rfl T.z_tuple) qa_nil))) (hz := Nat.le_of_ble_eq_true rfl))))) qf_nil)
      (qf_cons (qf_if (qt_w (qw_and (qt_cmp (d_eq hu64) (qe_var 4) qe_int rfl) (qw_and1 (qt_cmp d_gt (qe_len (qe_var 2) rfl T.z_len) qe_int rfl)))) (qf_one (qf_ret (qe_tup (qa_cons qe_str (qa_cons (qe_call (ok__law_draw T) (hr.mono (by omega)) ok (qa_cons (qe_var 0) (qa_cons (qe_len (qe_var 2) rfl T.z_len) qa_nil)) rfl) qa_nil)) (hz := Nat.le_of_ble_eq_true rfl)))) qf_nil)
      (qf_cons (qf_if (qt_w (qw_and (qt_cmp (d_eq hu64) (qe_var 4) qe_int rfl) (qw_and1 (qt_cmp d_gt (qe_len (qe_ix hu1 (qe_var 1) qe_int) rfl T.z_len) qe_int rfl)))) (qf_one (qf_ret (qe_tup (qa_cons qe_str (qa_cons (qe_call (ok__law_draw T) (hr.mono (by omega)) ok (qa_cons (qe_var 0) (qa_cons (qe_len (qe_ix hu1 (qe_var 1) qe_int) rfl T.z_len) qa_nil)) rfl) (qa_cons (qe_call (ok__law_e T 12) (hr.mono (by omega)) ok (qa_cons (qe_var 0) (qa_cons (qe_var 1) (qa_cons (qe_var 2) (qa_cons (qe_op2 d_sub (qe_var 3) qe_int) qa_nil)))) rfl) qa_nil))) (hz := Nat.le_of_ble_eq_true rfl)))) qf_nil)
      (qf_cons (qf_if (qt_w (qw_and (qt_cmp (d_eq hu64) (qe_var 4) qe_int rfl) (qw_and1 (qt_cmp d_gt (qe_var 3) qe_int rfl)))) (qf_cons (qf_set 8 sc.nd (qe_call (ok__law_e T 12) (hr.mono (by omega)) ok (qa_cons (qe_var 0) (qa_cons (qe_var 1) (qa_cons (qe_var 2) (qa_cons (qe_op2 d_sub (qe_var 3) qe_int) qa_nil)))) rfl))
      (qf_one (qf_ret (qe_tup (qa_cons qe_str (qa_cons (qe_var 8) (qa_cons (qe_call ih1 hr ok (qa_cons (qe_var 0) (qa_cons (qe_var 1) (qa_cons (qe_var 2) (qa_cons (qe_op2 d_sub (qe_var 3) qe_int) (qa_cons qe_int qa_nil))))) rfl) (qa_cons (qe_call ih1 hr ok (qa_cons (qe_var 0) (qa_cons (qe_var 1) (qa_cons (qe_var 2) (qa_cons (qe_op2 d_sub (qe_var 3) qe_int) (qa_cons qe_int qa_nil))))) rfl) qa_nil)))) (hz := Nat.le_of_ble_eq_true rfl))))) qf_nil)
      (qf_cons (qf_if (qt_cmp d_gt (qe_len (qe_ix hu1 (qe_var 1) qe_int) rfl T.z_len) qe_int rfl) (qf_one (qf_ret (qe_tup (qa_cons qe_str (qa_cons (qe_tup (qa_cons qe_str (qa_cons (qe_call (ok__law_draw T) (hr.mono (by omega)) ok (qa_cons (qe_var 0) (qa_cons (qe_len (qe_ix hu1 (qe_var 1) qe_int) rfl T.z_len) qa_nil)) rfl) qa_nil)) (hz := Nat.le_of_ble_eq_true rfl)) (qa_cons (qe_call (ok__law_e T 12) (hr.mono (by omega)) ok (qa_cons (qe_var 0) (qa_cons (qe_var 1) (qa_cons (qe_var 2) (qa_cons (qe_op2 d_sub (qe_var 3) qe_int) qa_nil)))) rfl) qa_nil))) (hz := Nat.le_of_ble_eq_true rfl)))) qf_nil)
      (qf_one (qf_ret (qe_tup (qa_cons qe_str (qa_cons (qe_call (ok__law_leaf T) (hr.mono (by omega)) ok (qa_cons (qe_var 0) (qa_cons (qe_var 1) (qa_cons (qe_var 2) qa_nil))) rfl) (qa_cons (qe_tup qa_nil (hz := Nat.le_of_ble_eq_true rfl)) (qa_cons (qe_tup qa_nil (hz := Nat.le_of_ble_eq_true rfl)) qa_nil)))) (hz := Nat.le_of_ble_eq_true rfl)))))))))))
    · intro f fd F
      rw [show n + 1 + 14 = n + 14 + 1 by omega]
      have sc := sc__law_b
      refine fn_okn (k := n + 14) (n := 6) (p := 5) (s := b__law_b (r__law_s n)) F sc rfl rfl fun cdv A outer s0 H E hr ok => ?_
      have hu1 := hu1_of hr
      have hu64 := hu64_of hr
      have hu65 := hu65_of hr
      exact (qf_one (qf_ret (qe_tuple (qs_l (ql_comp (t := (.one 5)) (own := [("k", 5)]) rfl sc.nd (qi_range1 rfl T.z_range (qe_call (ok__law_draw T) (hr.mono (by omega)) ok (qa_cons (qe_var 0) (qa_cons (qe_var 4) qa_nil)) rfl)) (blkOk_by (N := ["bag", "w", "eaches", "depth", "many", "k"]) (sc := defScope s__law_b) (by decide +kernel)) (fun _ _ _ _ _ => pg_name (i := 5) sc.nd rfl (Or.inl rfl)) (fun _ _ _ _ _ => qts_nil) (fun _ _ _ _ _ => (qe_call ih0 hr (Ok.blk rfl) (qa_cons (qe_var 0) (qa_cons (qe_var 1) (qa_cons (qe_var 2) (qa_cons (qe_var 3) qa_nil)))) rfl)) (by decide))) rfl T.z_tuple)))
theorem ok__law_s (T : Tx K mg ca) (n : Nat) : Fn P w K mg base ca (n + 14) "_law_s" ["bag", "w", "eaches", "depth"] (m__law_s n) := Fn.of T.f__law_s (fun _ _ _ _ _ _ us hl => match us, hl with | [_, _, _, _], _ => rfl) fun f fd F => (fg__law_s T n).1 F
theorem ok__law_b (T : Tx K mg ca) (n : Nat) : Fn P w K mg base ca (n + 14) "_law_b" ["bag", "w", "eaches", "depth", "many"] (m__law_b n) := Fn.of T.f__law_b (fun _ _ _ _ _ _ us hl => match us, hl with | [_, _, _, _, _], _ => rfl) fun f fd F => (fg__law_s T n).2 F
theorem sc__law_names : FnScope ["shift", "names", "k"] ["shift"] (defScope s__law_names) := ⟨rfl, rfl, rfl, by decide +kernel, rfl, by decide +kernel, by decide +kernel⟩
theorem fn__law_names (T : Tx K mg ca) {f : Addr} {fd : FuncData} (F : Fun K "_law_names" "_law_names" s__law_names f fd) : FnOk P w K mg base (L2.CX P w) 1 f fd ["shift"] (spOf K ca 1 m__law_names) := by
  have sc := sc__law_names
  refine fn_okn (k := 0) (n := 3) (p := 1) (s := b__law_names) F sc rfl rfl fun cdv A outer s0 H E hr ok => ?_
  have hu1 := hu1_of hr
  have hu64 := hu64_of hr
  have hu65 := hu65_of hr
  exact (qf_cons (qf_set 1 sc.nd (qe_new (ql_lst (qa_cons qe_str (qa_cons qe_str (qa_cons qe_str (qa_cons qe_str (qa_cons qe_str (qa_cons qe_str (qa_cons qe_str (qa_cons qe_str (qa_cons qe_str (qa_cons qe_str (qa_cons qe_str (qa_cons qe_str qa_nil)))))))))))) (hz := Nat.le_of_ble_eq_true rfl))))
  (qf_one (qf_ret (qe_new (ql_comp (t := (.one 2)) (own := [("k", 2)]) rfl sc.nd (qi_range1 rfl T.z_range qe_int) (blkOk_by (N := ["shift", "names", "k"]) (sc := defScope s__law_names) (by decide +kernel)) (fun _ _ _ _ _ => pg_name (i := 2) sc.nd rfl (Or.inl rfl)) (fun _ _ _ _ _ => qts_nil) (fun _ _ _ _ _ => (qe_ix hu1 (qe_var 1) (qe_op2 d_mod (qe_intOf (qe_op2 d_add (qe_var 0) (qe_var 2)) rfl T.z_int) qe_int))) (by decide))))))
theorem ok__law_names (T : Tx K mg ca) : Fn P w K mg base ca 1 "_law_names" ["shift"] m__law_names := Fn.of T.f__law_names (fun _ _ _ _ _ _ us hl => match us, hl with | [_], _ => rfl) fun f fd F => fn__law_names T F
theorem sc__law_range : FnScope ["bag", "pairs", "low", "high"] ["bag"] (defScope s__law_range) := ⟨rfl, rfl, rfl, by decide +kernel, rfl, by decide +kernel, by decide +kernel⟩
theorem fn__law_range (T : Tx K mg ca) {f : Addr} {fd : FuncData} (F : Fun K "_law_range" "_law_range" s__law_range f fd) : FnOk P w K mg base (L2.CX P w) 2 f fd ["bag"] (spOf K ca 1 m__law_range) := by
  have sc := sc__law_range
  refine fn_okn (k := 1) (n := 4) (p := 1) (s := b__law_range) F sc rfl rfl fun cdv A outer s0 H E hr ok => ?_
  have hu1 := hu1_of hr
  have hu64 := hu64_of hr
  have hu65 := hu65_of hr
  exact (qf_cons (qf_set 1 sc.nd (qe_new (ql_lst (qa_cons (qe_tup (qa_cons qe_int (qa_cons qe_int qa_nil)) (hz := Nat.le_of_ble_eq_true rfl)) (qa_cons (qe_tup (qa_cons qe_int (qa_cons qe_int qa_nil)) (hz := Nat.le_of_ble_eq_true rfl)) (qa_cons (qe_tup (qa_cons (qe_un d_neg qe_int) (qa_cons qe_int qa_nil)) (hz := Nat.le_of_ble_eq_true rfl)) (qa_cons (qe_tup (qa_cons qe_int (qa_cons qe_int qa_nil)) (hz := Nat.le_of_ble_eq_true rfl)) (qa_cons (qe_tup (qa_cons (qe_un d_neg qe_int) (qa_cons (qe_un d_neg qe_int) qa_nil)) (hz := Nat.le_of_ble_eq_true rfl)) (qa_cons (qe_tup (qa_cons qe_int (qa_cons qe_int qa_nil)) (hz := Nat.le_of_ble_eq_true rfl)) (qa_cons (qe_tup (qa_cons (qe_un d_neg qe_int) (qa_cons qe_int qa_nil)) (hz := Nat.le_of_ble_eq_true rfl)) (qa_cons (qe_tup (qa_cons (qe_un d_neg qe_int) (qa_cons qe_int qa_nil)) (hz := Nat.le_of_ble_eq_true rfl)) qa_nil)))))))) (hz := Nat.le_of_ble_eq_true rfl))))
  (qf_cons (qf_asg (qe_ix hu1 (qe_var 1) (qe_call (ok__law_draw T) (hr.mono (by decide)) ok (qa_cons (qe_var 0) (qa_cons qe_int qa_nil)) rfl)) (qg_tup rfl (qgs_cons (qg_name 2 sc.nd) (qgs_cons (qg_name 3 sc.nd) qgs_nil))))
  (qf_cons (qf_if (qt_cmp (d_eq hu64) (qe_call (ok__law_draw T) (hr.mono (by decide)) ok (qa_cons (qe_var 0) (qa_cons qe_int qa_nil)) rfl) qe_int rfl) (qf_cons (qf_set 2 sc.nd (qe_op2 d_sub (qe_call (ok__law_draw T) (hr.mono (by decide)) ok (qa_cons (qe_var 0) (qa_cons qe_int qa_nil)) rfl) qe_int))
  (qf_one (qf_set 3 sc.nd (qe_op2 d_add (qe_var 2) (qe_call (ok__law_draw T) (hr.mono (by decide)) ok (qa_cons (qe_var 0) (qa_cons (qe_ixL (ql_lst (qa_cons qe_int (qa_cons qe_int (qa_cons qe_int qa_nil))) (hz := Nat.le_of_ble_eq_true rfl)) (qe_call (ok__law_draw T) (hr.mono (by decide)) ok (qa_cons (qe_var 0) (qa_cons qe_int qa_nil)) rfl)) qa_nil)) rfl))))) qf_nil)
  (qf_one (qf_ret (qe_tup (qa_cons (qe_var 2) (qa_cons (qe_var 3) qa_nil)) (hz := Nat.le_of_ble_eq_true rfl)))))))
theorem ok__law_range (T : Tx K mg ca) : Fn P w K mg base ca 2 "_law_range" ["bag"] m__law_range := Fn.of T.f__law_range (fun _ _ _ _ _ _ us hl => match us, hl with | [_], _ => rfl) fun f fd F => fn__law_range T F
theorem sc__law_declared : FnScope ["bag", "large", "most", "names", "knobs", "k", "values", "tables", "room", "past", "fields", "tells", "seats", "j"] ["bag", "large"] (defScope s__law_declared) := ⟨rfl, rfl, rfl, by decide +kernel, rfl, by decide +kernel, by decide +kernel⟩
theorem fn__law_declared (T : Tx K mg ca) {f : Addr} {fd : FuncData} (F : Fun K "_law_declared" "_law_declared" s__law_declared f fd) : FnOk P w K mg base (L2.CX P w) 3 f fd ["bag", "large"] (spOf K ca 2 m__law_declared) := by
  have sc := sc__law_declared
  refine fn_okn (k := 2) (n := 14) (p := 2) (s := b__law_declared) F sc rfl rfl fun cdv A outer s0 H E hr ok => ?_
  have hu1 := hu1_of hr
  have hu64 := hu64_of hr
  have hu65 := hu65_of hr
  exact (qf_cons (qf_set 2 sc.nd (qe_ixL (ql_lst (qa_cons qe_int (qa_cons qe_int qa_nil)) (hz := Nat.le_of_ble_eq_true rfl)) (qe_var 1)))
  (qf_cons (qf_set 3 sc.nd (qe_call (ok__law_names T) (hr.mono (by decide)) ok (qa_cons (qe_call (ok__law_draw T) (hr.mono (by decide)) ok (qa_cons (qe_var 0) (qa_cons qe_int qa_nil)) rfl) qa_nil) rfl))
  (qf_cons (qf_set 4 sc.nd (qe_new (ql_lst qa_nil (hz := Nat.le_of_ble_eq_true rfl))))
  (qf_cons (qf_for ok (qi_range1 rfl T.z_range (qe_op2 d_add qe_int (qe_call (ok__law_draw T) (hr.mono (by decide)) ok (qa_cons (qe_var 0) (qa_cons (qe_ixL (ql_lst (qa_cons qe_int (qa_cons qe_int qa_nil)) (hz := Nat.le_of_ble_eq_true rfl)) (qe_var 1)) qa_nil)) rfl))) (qg_name 5 sc.nd) (qf_one (qf_exp (qe_app (qe_var 4) (qe_op2 d_add (qe_op2 d_add (qe_tup (qa_cons (qe_ix hu1 (qe_var 3) (qe_var 5)) qa_nil) (hz := Nat.le_of_ble_eq_true rfl)) (qe_call (ok__law_range T) (hr.mono (by decide)) ok (qa_cons (qe_var 0) qa_nil) rfl)) (qe_tup (qa_cons (qe_ixL (ql_lst (qa_cons qe_str (qa_cons qe_str qa_nil)) (hz := Nat.le_of_ble_eq_true rfl)) (qe_call (ok__law_draw T) (hr.mono (by decide)) ok (qa_cons (qe_var 0) (qa_cons qe_int qa_nil)) rfl)) qa_nil) (hz := Nat.le_of_ble_eq_true rfl)))))))
  (qf_cons (qf_set 6 sc.nd (qe_tuple (qs_l (ql_comp (t := (.one 5)) (own := [("k", 5)]) rfl sc.nd (qi_range1 rfl T.z_range (qe_call (ok__law_draw T) (hr.mono (by decide)) ok (qa_cons (qe_var 0) (qa_cons (qe_ixL (ql_lst (qa_cons qe_int (qa_cons qe_int qa_nil)) (hz := Nat.le_of_ble_eq_true rfl)) (qe_var 1)) qa_nil)) rfl)) (blkOk_by (N := ["bag", "large", "most", "names", "knobs", "k", "values", "tables", "room", "past", "fields", "tells", "seats", "j"]) (sc := defScope s__law_declared) (by decide +kernel)) (fun _ _ _ _ _ => pg_name (i := 5) sc.nd rfl (Or.inl rfl)) (fun _ _ _ _ _ => qts_nil) (fun _ _ _ _ _ => (qe_op2 d_add (qe_tup (qa_cons (qe_ix hu1 (qe_var 3) (qe_var 5)) qa_nil) (hz := Nat.le_of_ble_eq_true rfl)) (qe_call (ok__law_range T) (hr.mono (by decide)) (Ok.blk rfl) (qa_cons (qe_var 0) qa_nil) rfl))) (by decide))) rfl T.z_tuple))
  (qf_cons (qf_set 7 sc.nd (qe_new (ql_lst qa_nil (hz := Nat.le_of_ble_eq_true rfl))))
  (qf_cons (qf_for ok (qi_range1 rfl T.z_range (qe_call (ok__law_draw T) (hr.mono (by decide)) ok (qa_cons (qe_var 0) (qa_cons (qe_op2 d_add (qe_var 2) qe_int) qa_nil)) rfl)) (qg_name 5 sc.nd) (qf_cons (qf_set 8 sc.nd (qe_op2 d_add qe_int (qe_call (ok__law_draw T) (hr.mono (by decide)) ok (qa_cons (qe_var 0) (qa_cons (qe_ixL (ql_lst (qa_cons qe_int (qa_cons qe_int qa_nil)) (hz := Nat.le_of_ble_eq_true rfl)) (qe_var 1)) qa_nil)) rfl)))
  (qf_cons (qf_set 9 sc.nd (qe_ixL (ql_lst (qa_cons qe_int (qa_cons qe_int (qa_cons (qe_op2 d_add qe_int (qe_call (ok__law_draw T) (hr.mono (by decide)) ok (qa_cons (qe_var 0) (qa_cons (qe_ixL (ql_lst (qa_cons qe_int (qa_cons qe_int qa_nil)) (hz := Nat.le_of_ble_eq_true rfl)) (qe_var 1)) qa_nil)) rfl)) qa_nil))) (hz := Nat.le_of_ble_eq_true rfl)) (qe_call (ok__law_draw T) (hr.mono (by decide)) ok (qa_cons (qe_var 0) (qa_cons qe_int qa_nil)) rfl)))
  (qf_cons (qf_set 10 sc.nd (qe_tuple (qs_l (ql_comp (t := (.one 13)) (own := [("j", 13)]) rfl sc.nd (qi_range1 rfl T.z_range (qe_op2 d_add qe_int (qe_call (ok__law_draw T) (hr.mono (by decide)) ok (qa_cons (qe_var 0) (qa_cons (qe_var 2) qa_nil)) rfl))) (blkOk_by (N := ["bag", "large", "most", "names", "knobs", "k", "values", "tables", "room", "past", "fields", "tells", "seats", "j"]) (sc := defScope s__law_declared) (by decide +kernel)) (fun _ _ _ _ _ => pg_name (i := 13) sc.nd rfl (Or.inl rfl)) (fun _ _ _ _ _ => qts_nil) (fun _ _ _ _ _ => (qe_op2 d_add (qe_tup (qa_cons (qe_ix hu1 (qe_var 3) (qe_op2 d_add (qe_var 13) qe_int)) qa_nil) (hz := Nat.le_of_ble_eq_true rfl)) (qe_call (ok__law_range T) (hr.mono (by decide)) (Ok.blk rfl) (qa_cons (qe_var 0) qa_nil) rfl))) (by decide))) rfl T.z_tuple))
  (qf_one (qf_exp (qe_app (qe_var 7) (qe_tup (qa_cons (qe_ix hu1 (qe_var 3) (qe_var 5)) (qa_cons (qe_var 8) (qa_cons (qe_var 9) (qa_cons (qe_var 10) qa_nil)))) (hz := Nat.le_of_ble_eq_true rfl)))))))))
  (qf_cons (qf_set 11 sc.nd (qe_tuple (qs_e (qe_slice (qe_var 3) qo_none (qo_some (qe_call (ok__law_draw T) (hr.mono (by decide)) ok (qa_cons (qe_var 0) (qa_cons (qe_ixL (ql_lst (qa_cons qe_int (qa_cons qe_int qa_nil)) (hz := Nat.le_of_ble_eq_true rfl)) (qe_var 1)) qa_nil)) rfl)))) rfl T.z_tuple))
  (qf_cons (qf_set 12 sc.nd (qe_op2 d_add qe_int (qe_call (ok__law_draw T) (hr.mono (by decide)) ok (qa_cons (qe_var 0) (qa_cons (qe_ixL (ql_lst (qa_cons qe_int (qa_cons qe_int qa_nil)) (hz := Nat.le_of_ble_eq_true rfl)) (qe_var 1)) qa_nil)) rfl)))
  (qf_one (qf_ret (qe_tup (qa_cons qe_str (qa_cons (qe_ix hu1 (qe_var 3) qe_int) (qa_cons (qe_var 12) (qa_cons (qe_tuple (qs_e (qe_var 4)) rfl T.z_tuple) (qa_cons (qe_var 6) (qa_cons (qe_tuple (qs_e (qe_var 7)) rfl T.z_tuple) (qa_cons (qe_var 11) qa_nil))))))) (hz := Nat.le_of_ble_eq_true rfl)))))))))))))
theorem ok__law_declared (T : Tx K mg ca) : Fn P w K mg base ca 3 "_law_declared" ["bag", "large"] m__law_declared := Fn.of T.f__law_declared (fun _ _ _ _ _ _ us hl => match us, hl with | [_, _], _ => rfl) fun f fd F => fn__law_declared T F
theorem sc__law_world : FnScope ["bag", "large", "w", "depth", "start", "rules", "names", "k", "eaches", "condition", "j"] ["bag", "large"] (defScope s__law_world) := ⟨rfl, rfl, rfl, by decide +kernel, rfl, by decide +kernel, by decide +kernel⟩
theorem fn__law_world (T : Tx K mg ca) {f : Addr} {fd : FuncData} (F : Fun K "_law_world" "_law_world" s__law_world f fd) : FnOk P w K mg base (L2.CX P w) 45 f fd ["bag", "large"] (spOf K ca 2 m__law_world) := by
  have sc := sc__law_world
  refine fn_okn (k := 44) (n := 11) (p := 2) (s := b__law_world) F sc rfl rfl fun cdv A outer s0 H E hr ok => ?_
  have hu1 := hu1_of hr
  have hu64 := hu64_of hr
  have hu65 := hu65_of hr
  exact (qf_cons (qf_set 2 sc.nd (qe_call (ok__law_declared T) (hr.mono (by decide)) ok (qa_cons (qe_var 0) (qa_cons (qe_var 1) qa_nil)) rfl))
  (qf_cons (qf_set 3 sc.nd (qe_op2 d_add qe_int (qe_call (ok__law_draw T) (hr.mono (by decide)) ok (qa_cons (qe_var 0) (qa_cons (qe_ixL (ql_lst (qa_cons qe_int (qa_cons qe_int qa_nil)) (hz := Nat.le_of_ble_eq_true rfl)) (qe_var 1)) qa_nil)) rfl)))
  (qf_cons (qf_set 4 sc.nd (qe_call (ok__law_b T 30) (hr.mono (by decide)) ok (qa_cons (qe_var 0) (qa_cons (qe_var 2) (qa_cons (qe_tup qa_nil (hz := Nat.le_of_ble_eq_true rfl)) (qa_cons (qe_var 3) (qa_cons (qe_ixL (ql_lst (qa_cons qe_int (qa_cons qe_int qa_nil)) (hz := Nat.le_of_ble_eq_true rfl)) (qe_var 1)) qa_nil))))) rfl))
  (qf_cons (qf_set 5 sc.nd (qe_new (ql_lst qa_nil (hz := Nat.le_of_ble_eq_true rfl))))
  (qf_cons (qf_set 6 sc.nd (qe_new (ql_catE (qe_call (ok__law_names T) (hr.mono (by decide)) ok (qa_cons (qe_call (ok__law_draw T) (hr.mono (by decide)) ok (qa_cons (qe_var 0) (qa_cons qe_int qa_nil)) rfl) qa_nil) rfl) (qm_l (ql_comp (t := (.one 7)) (own := [("k", 7)]) rfl sc.nd (qi_range1 rfl T.z_range qe_int) (blkOk_by (N := ["bag", "large", "w", "depth", "start", "rules", "names", "k", "eaches", "condition", "j"]) (sc := defScope s__law_world) (by decide +kernel)) (fun _ _ _ _ _ => pg_name (i := 7) sc.nd rfl (Or.inl rfl)) (fun _ _ _ _ _ => qts_nil) (fun _ _ _ _ _ => (qe_op2 d_add qe_str (qe_str2 (qe_var 7) rfl T.z_str))) (by decide))))))
  (qf_cons (qf_for ok (qi_range1 rfl T.z_range (qe_call (ok__law_draw T) (hr.mono (by decide)) ok (qa_cons (qe_var 0) (qa_cons (qe_ixL (ql_lst (qa_cons qe_int (qa_cons qe_int qa_nil)) (hz := Nat.le_of_ble_eq_true rfl)) (qe_var 1)) qa_nil)) rfl)) (qg_name 7 sc.nd) (qf_cons (qf_set 8 sc.nd (qe_tup qa_nil (hz := Nat.le_of_ble_eq_true rfl)))
  (qf_cons (qf_if (qt_cmp d_gt (qe_len (qe_ix hu1 (qe_var 2) qe_int) rfl T.z_len) qe_int rfl) (qf_one (qf_set 8 sc.nd (qe_tuple (qs_l (ql_comp (t := (.one 10)) (own := [("j", 10)]) rfl sc.nd (qi_range1 rfl T.z_range (qe_call (ok__law_draw T) (hr.mono (by decide)) ok (qa_cons (qe_var 0) (qa_cons qe_int qa_nil)) rfl)) (blkOk_by (N := ["bag", "large", "w", "depth", "start", "rules", "names", "k", "eaches", "condition", "j"]) (sc := defScope s__law_world) (by decide +kernel)) (fun _ _ _ _ _ => pg_name (i := 10) sc.nd rfl (Or.inl rfl)) (fun _ _ _ _ _ => qts_nil) (fun _ _ _ _ _ => (qe_call (ok__law_draw T) (hr.mono (by decide)) (Ok.blk rfl) (qa_cons (qe_var 0) (qa_cons (qe_len (qe_ix hu1 (qe_var 2) qe_int) rfl T.z_len) qa_nil)) rfl)) (by decide))) rfl T.z_tuple))) qf_nil)
  (qf_cons (qf_set 9 sc.nd qe_non)
  (qf_cons (qf_if (qt_cmp (d_eq hu64) (qe_call (ok__law_draw T) (hr.mono (by decide)) ok (qa_cons (qe_var 0) (qa_cons qe_int qa_nil)) rfl) qe_int rfl) (qf_one (qf_set 9 sc.nd (qe_call (ok__law_e T 12) (hr.mono (by decide)) ok (qa_cons (qe_var 0) (qa_cons (qe_var 2) (qa_cons (qe_var 8) (qa_cons (qe_min2 rfl qe_int (qe_var 3) rfl T.z_min) qa_nil)))) rfl))) qf_nil)
  (qf_one (qf_exp (qe_app (qe_var 5) (qe_tup (qa_cons qe_str (qa_cons (qe_ix hu1 (qe_var 6) (qe_var 7)) (qa_cons (qe_var 8) (qa_cons (qe_var 9) (qa_cons (qe_call (ok__law_b T 30) (hr.mono (by decide)) ok (qa_cons (qe_var 0) (qa_cons (qe_var 2) (qa_cons (qe_var 8) (qa_cons (qe_var 3) (qa_cons qe_int qa_nil))))) rfl) qa_nil))))) (hz := Nat.le_of_ble_eq_true rfl))))))))))
  (qf_one (qf_ret (qe_op2 d_add (qe_var 2) (qe_tup (qa_cons (qe_var 4) (qa_cons (qe_tuple (qs_e (qe_var 5)) rfl T.z_tuple) qa_nil)) (hz := Nat.le_of_ble_eq_true rfl)))))))))))
theorem ok__law_world (T : Tx K mg ca) : Fn P w K mg base ca 45 "_law_world" ["bag", "large"] m__law_world := Fn.of T.f__law_world (fun _ _ _ _ _ _ us hl => match us, hl with | [_, _], _ => rfl) fun f fd F => fn__law_world T F
theorem sc__law_bag : FnScope ["script", "k", "cell"] ["script", "k"] (defScope s__law_bag) := ⟨rfl, rfl, rfl, by decide +kernel, rfl, by decide +kernel, by decide +kernel⟩
theorem fn__law_bag (T : Tx K mg ca) {f : Addr} {fd : FuncData} (F : Fun K "_law_bag" "_law_bag" s__law_bag f fd) : FnOk P w K mg base (L2.CX P w) 1 f fd ["script", "k"] (spOf K ca 2 m__law_bag) := by
  have sc := sc__law_bag
  refine fn_okn (k := 0) (n := 3) (p := 2) (s := b__law_bag) F sc rfl rfl fun cdv A outer s0 H E hr ok => ?_
  have hu1 := hu1_of hr
  have hu64 := hu64_of hr
  have hu65 := hu65_of hr
  exact (qf_cons (qf_set 2 sc.nd qe_int)
  (qf_cons (qf_if (qt_cmp d_lt (qe_var 1) (qe_len (qe_var 0) rfl T.z_len) rfl) (qf_one (qf_set 2 sc.nd (qe_intOf (qe_ix hu1 (qe_var 0) (qe_var 1)) rfl T.z_int))) qf_nil)
  (qf_one (qf_ret (qe_new (ql_lst (qa_cons qe_int (qa_cons (qe_op2 d_add qe_int (qe_op2 d_mul qe_int (qe_var 1))) (qa_cons qe_int (qa_cons (qe_var 2) qa_nil)))) (hz := Nat.le_of_ble_eq_true rfl)))))))
theorem ok__law_bag (T : Tx K mg ca) : Fn P w K mg base ca 1 "_law_bag" ["script", "k"] m__law_bag := Fn.of T.f__law_bag (fun _ _ _ _ _ _ us hl => match us, hl with | [_, _], _ => rfl) fun f fd F => fn__law_bag T F
theorem sc_law : FnScope ["script", "k", "bag", "w", "j", "turn", "i", "due"] ["script"] (defScope s_law) := ⟨rfl, rfl, rfl, by decide +kernel, rfl, by decide +kernel, by decide +kernel⟩
theorem fn_law (T : Tx K mg ca) {f : Addr} {fd : FuncData} (F : Fun K "law" "law" s_law f fd) : FnOk P w K mg base (L2.CX P w) 95 f fd ["script"] (spOf K ca 1 m_law) := by
  have sc := sc_law
  refine fn_okn (k := 94) (n := 8) (p := 1) (s := b_law) F sc rfl rfl fun cdv A outer s0 H E hr ok => ?_
  have hu1 := hu1_of hr
  have hu64 := hu64_of hr
  have hu65 := hu65_of hr
  exact (qf_cons (qf_for ok (qi_range1 rfl T.z_range (qe_max2 rfl qe_int (qe_min2 rfl qe_int (qe_len (qe_var 0) rfl T.z_len) rfl T.z_min) rfl T.z_max)) (qg_name 1 sc.nd) (qf_cons (qf_set 2 sc.nd (qe_call (ok__law_bag T) (hr.mono (by decide)) ok (qa_cons (qe_var 0) (qa_cons (qe_var 1) qa_nil)) rfl))
  (qf_cons (qf_set 3 sc.nd (qe_call (ok__law_world T) (hr.mono (by decide)) ok (qa_cons (qe_var 2) (qa_cons (qe_intOf (qe_cmp (d_eq hu64) (qe_call (ok__law_draw T) (hr.mono (by decide)) ok (qa_cons (qe_var 2) (qa_cons qe_int qa_nil)) rfl) qe_int rfl) rfl T.z_int) qa_nil)) rfl))
  (qf_cons (qf_for ok (qi_range1 rfl T.z_range (qe_len (qe_ix hu1 (qe_var 3) qe_int) rfl T.z_len)) (qg_name 4 sc.nd) (qf_one (qf_if (qt_not (qt_truth (qe_call (ok__law_alike T) (hr.mono (by decide)) ok (qa_cons (qe_call (ok__law_touches T) (hr.mono (by decide)) ok (qa_cons (qe_var 3) (qa_cons (qe_var 4) qa_nil)) rfl) (qa_cons (qe_call (ok_touches T) (hr.mono (by decide)) ok (qa_cons (qe_var 3) (qa_cons (qe_var 4) qa_nil)) rfl) qa_nil)) rfl))) (qf_one (qf_ret qe_bl)) qf_nil)))
  (qf_one (qf_for ok (qi_range1 rfl T.z_range (qe_op2 d_mul qe_int (qe_intOf (qe_cmp d_gt (qe_len (qe_ix hu1 (qe_var 3) qe_int) rfl T.z_len) qe_int rfl) rfl T.z_int))) (qg_name 5 sc.nd) (qf_cons (qf_set 6 sc.nd (qe_call (ok__law_draw T) (hr.mono (by decide)) ok (qa_cons (qe_var 2) (qa_cons (qe_len (qe_ix hu1 (qe_var 3) qe_int) rfl T.z_len) qa_nil)) rfl))
  (qf_cons (qf_set 4 sc.nd (qe_op2 d_mod (qe_intOf (qe_op2 d_add (qe_op2 d_add (qe_var 6) qe_int) (qe_call (ok__law_draw T) (hr.mono (by decide)) ok (qa_cons (qe_var 2) (qa_cons (qe_op2 d_sub (qe_len (qe_ix hu1 (qe_var 3) qe_int) rfl T.z_len) qe_int) qa_nil)) rfl)) rfl T.z_int) (qe_len (qe_ix hu1 (qe_var 3) qe_int) rfl T.z_len)))
  (qf_cons (qf_set 7 sc.nd (qe_repr (qe_call (ok__law_apart T) (hr.mono (by decide)) ok (qa_cons (qe_var 3) (qa_cons (qe_var 6) (qa_cons (qe_var 4) qa_nil))) rfl) rfl T.z_repr))
  (qf_one (qf_if (qt_w (qw_or (qt_cmp (d_ne hu64) (qe_repr (qe_call (ok_apart T) (hr.mono (by decide)) ok (qa_cons (qe_var 3) (qa_cons (qe_var 6) (qa_cons (qe_var 4) qa_nil))) rfl) rfl T.z_repr) (qe_var 7) rfl) (qw_or1 (qt_cmp (d_ne hu64) (qe_repr (qe_call (ok_apart T) (hr.mono (by decide)) ok (qa_cons (qe_var 3) (qa_cons (qe_var 4) (qa_cons (qe_var 6) qa_nil))) rfl) rfl T.z_repr) (qe_var 7) rfl)))) (qf_one (qf_ret qe_bl)) qf_nil)))))))))))
  (qf_one (qf_ret qe_bl)))
theorem ok_law (T : Tx K mg ca) : Fn P w K mg base ca 95 "law" ["script"] m_law := Fn.of T.f_law (fun _ _ _ _ _ _ us hl => match us, hl with | [_], _ => rfl) fun f fd F => fn_law T F
end
end PMl

set_option Elab.async false
set_option linter.all false
set_option maxRecDepth 100000
set_option maxHeartbeats 4000000
/-! the end of k95 (printed by gen.py) -/
namespace PMl
open PySem PySem.Spec PyProof.Rows L2 PM
def caOf (C0 : Addr) : Nat → Addr
  | 0 => C0
  | _ => 0
theorem all_mk {l : PySem.W.OpenLaw} {w : World} {K : Frag} {h : Heap} {mg : Str → Option Value} {fa C0 f0 f1 f2 f3 f4 f5 f6 f7 f8 f9 f10 f11 f12 f13 f14 f15 f16 f17 f18 f19 f20 f21 f22 f23 f24 f25 f26 f27 f28 f29 f30 f31 : Addr} (X : K.In h) (G : h.Ns mainGlobals mg) (hfa : mg "law" = some (.ref fa))
    {od0 od1 od2 od3 od4 od5 od6 od7 od8 od9 od10 od11 od12 od13 od14 od15 od16 od17 od18 od19 od20 od21 od22 od23 od24 od25 od26 od27 od28 od29 od30 od31 an0 an1 an2 an3 an4 an5 an6 an7 an8 an9 an10 an11 an12 an13 an14 an15 an16 an17 an18 an19 an20 an21 an22 an23 an24 an25 an26 an27 an28 an29 an30 an31 : Option Addr} {sl0 sl1 sl2 sl3 sl4 sl5 sl6 sl7 sl8 sl9 sl10 sl11 sl12 sl13 sl14 sl15 sl16 sl17 sl18 sl19 sl20 sl21 sl22 sl23 sl24 sl25 sl26 sl27 sl28 sl29 sl30 sl31 : Array (Option Value)} {oc0 oc1 oc2 oc3 oc4 oc5 oc6 oc7 oc8 oc9 oc10 oc11 oc12 oc13 oc14 oc15 oc16 oc17 oc18 oc19 oc20 oc21 oc22 oc23 oc24 oc25 oc26 oc27 oc28 oc29 oc30 oc31 kV0 kV1 kV2 kV3 kV4 kV5 kV6 kV7 kV8 kV9 kV10 kV11 kV12 kV13 kV14 kV15 kV16 kV17 kV18 kV19 kV20 kV21 kV22 kV23 kV24 kV25 kV26 kV27 kV28 kV29 kV30 kV31 dc0 dc1 dc2 dc3 dc4 dc5 dc6 dc7 dc8 dc9 dc10 dc11 dc12 dc13 dc14 dc15 dc16 dc17 dc18 dc19 dc20 dc21 dc22 dc23 dc24 dc25 dc26 dc27 dc28 dc29 dc30 dc31 pm0 pm1 pm2 pm3 pm4 pm5 pm6 pm7 pm8 pm9 pm10 pm11 pm12 pm13 pm14 pm15 pm16 pm17 pm18 pm19 pm20 pm21 pm22 pm23 pm24 pm25 pm26 pm27 pm28 pm29 pm30 pm31 cd0 cd1 cd2 cd3 cd4 cd5 cd6 cd7 cd8 cd9 cd10 cd11 cd12 cd13 cd14 cd15 cd16 cd17 cd18 cd19 cd20 cd21 cd22 cd23 cd24 cd25 cd26 cd27 cd28 cd29 cd30 cd31 ct0 ct1 ct2 ct3 ct4 ct5 ct6 ct7 ct8 ct9 ct10 ct11 ct12 ct13 ct14 ct15 ct16 ct17 ct18 ct19 ct20 ct21 ct22 ct23 ct24 ct25 ct26 ct27 ct28 ct29 ct30 ct31 : Value}
    (hm : ∀ ns : List Int, ns.length ≤ 63 → ∃ st, m_law [.con (ns.map D.int)] [] = .ok (.bl true) st)
    {ka_KINDS : Addr}
    {ct_KINDS_0 ct_KINDS_1 ct_KINDS_2 : Tok}
    {ka_KINDSd : Option Addr}
    {ka_KINDSn : Nat}
    {ka_KINDSs : Array (Option Value)}
    (a_Touch : PySem.W.nsIn K mainGlobals "Touch" = some (some (.ref C0)))
    (pg_Touch : PySem.W.plainGet K C0 Str.empty = true)
    (hd_Touch : PySem.W.hasDictIn K C0 = true)
    (po_Touch : PySem.W.plainOver K C0 = true)
    (sa_Touch : PySem.W.findIn K (.ref C0) "__setattr__" = some (some (.builtin "object.__setattr__")))
    (mk_Touch : PySem.W.makesIn K C0 = true)
    (kc_Touch : PySem.W.keepIn K (.ref C0) = true)
    (a0 : PySem.W.nsIn K mainGlobals "meet" = some (some (.ref f0)))
    (l0 : K.lookup f0 = some ⟨oc0, od0, .func (PySem.W.fnOf "meet" "meet" (defArgs s_meet) (defBody s_meet) (defScope s_meet) .none kV0 dc0 pm0 an0 cd0 ct0), sl0⟩)
    (c0 : PySem.W.codeIn K cd0 "meet" = true)
    (k0 : PySem.W.keepIn K (.ref f0) = true)
    (a1 : PySem.W.nsIn K mainGlobals "ordered" = some (some (.ref f1)))
    (l1 : K.lookup f1 = some ⟨oc1, od1, .func (PySem.W.fnOf "ordered" "ordered" (defArgs s_ordered) (defBody s_ordered) (defScope s_ordered) .none kV1 dc1 pm1 an1 cd1 ct1), sl1⟩)
    (c1 : PySem.W.codeIn K cd1 "ordered" = true)
    (k1 : PySem.W.keepIn K (.ref f1) = true)
    (a2 : PySem.W.findIn K (.ref C0) "told" = some (some (.ref f2)))
    (i2 : PySem.W.isFn K (.ref f2) = true)
    (l2 : K.lookup f2 = some ⟨oc2, od2, .func (PySem.W.fnOf "told" "Touch.told" (defArgs s_Touch_told) (defBody s_Touch_told) (defScope s_Touch_told) .none kV2 dc2 pm2 an2 cd2 ct2), sl2⟩)
    (c2 : PySem.W.codeIn K cd2 "Touch.told" = true)
    (k2 : PySem.W.keepIn K (.ref f2) = true)
    (a3 : PySem.W.findIn K (.ref C0) "look" = some (some (.ref f3)))
    (i3 : PySem.W.isFn K (.ref f3) = true)
    (l3 : K.lookup f3 = some ⟨oc3, od3, .func (PySem.W.fnOf "look" "Touch.look" (defArgs s_Touch_look) (defBody s_Touch_look) (defScope s_Touch_look) .none kV3 dc3 pm3 an3 cd3 ct3), sl3⟩)
    (c3 : PySem.W.codeIn K cd3 "Touch.look" = true)
    (k3 : PySem.W.keepIn K (.ref f3) = true)
    (a4 : PySem.W.findIn K (.ref C0) "_field" = some (some (.ref f4)))
    (i4 : PySem.W.isFn K (.ref f4) = true)
    (l4 : K.lookup f4 = some ⟨oc4, od4, .func (PySem.W.fnOf "_field" "Touch._field" (defArgs s_Touch__field) (defBody s_Touch__field) (defScope s_Touch__field) .none kV4 dc4 pm4 an4 cd4 ct4), sl4⟩)
    (c4 : PySem.W.codeIn K cd4 "Touch._field" = true)
    (k4 : PySem.W.keepIn K (.ref f4) = true)
    (a5 : PySem.W.findIn K (.ref C0) "expression" = some (some (.ref f5)))
    (i5 : PySem.W.isFn K (.ref f5) = true)
    (l5 : K.lookup f5 = some ⟨oc5, od5, .func (PySem.W.fnOf "expression" "Touch.expression" (defArgs s_Touch_expression) (defBody s_Touch_expression) (defScope s_Touch_expression) .none kV5 dc5 pm5 an5 cd5 ct5), sl5⟩)
    (c5 : PySem.W.codeIn K cd5 "Touch.expression" = true)
    (k5 : PySem.W.keepIn K (.ref f5) = true)
    (a6 : PySem.W.findIn K (.ref C0) "_one" = some (some (.ref f6)))
    (i6 : PySem.W.isFn K (.ref f6) = true)
    (l6 : K.lookup f6 = some ⟨oc6, od6, .func (PySem.W.fnOf "_one" "Touch._one" (defArgs s_Touch__one) (defBody s_Touch__one) (defScope s_Touch__one) .none kV6 dc6 pm6 an6 cd6 ct6), sl6⟩)
    (c6 : PySem.W.codeIn K cd6 "Touch._one" = true)
    (k6 : PySem.W.keepIn K (.ref f6) = true)
    (a7 : PySem.W.findIn K (.ref C0) "change" = some (some (.ref f7)))
    (i7 : PySem.W.isFn K (.ref f7) = true)
    (l7 : K.lookup f7 = some ⟨oc7, od7, .func (PySem.W.fnOf "change" "Touch.change" (defArgs s_Touch_change) (defBody s_Touch_change) (defScope s_Touch_change) .none kV7 dc7 pm7 an7 cd7 ct7), sl7⟩)
    (c7 : PySem.W.codeIn K cd7 "Touch.change" = true)
    (k7 : PySem.W.keepIn K (.ref f7) = true)
    (a8 : PySem.W.findIn K (.ref C0) "_make" = some (some (.ref f8)))
    (i8 : PySem.W.isFn K (.ref f8) = true)
    (l8 : K.lookup f8 = some ⟨oc8, od8, .func (PySem.W.fnOf "_make" "Touch._make" (defArgs s_Touch__make) (defBody s_Touch__make) (defScope s_Touch__make) .none kV8 dc8 pm8 an8 cd8 ct8), sl8⟩)
    (c8 : PySem.W.codeIn K cd8 "Touch._make" = true)
    (k8 : PySem.W.keepIn K (.ref f8) = true)
    (a9 : PySem.W.findIn K (.ref C0) "body" = some (some (.ref f9)))
    (i9 : PySem.W.isFn K (.ref f9) = true)
    (l9 : K.lookup f9 = some ⟨oc9, od9, .func (PySem.W.fnOf "body" "Touch.body" (defArgs s_Touch_body) (defBody s_Touch_body) (defScope s_Touch_body) .none kV9 dc9 pm9 an9 cd9 ct9), sl9⟩)
    (c9 : PySem.W.codeIn K cd9 "Touch.body" = true)
    (k9 : PySem.W.keepIn K (.ref f9) = true)
    (a10 : PySem.W.findIn K (.ref C0) "_statement" = some (some (.ref f10)))
    (i10 : PySem.W.isFn K (.ref f10) = true)
    (l10 : K.lookup f10 = some ⟨oc10, od10, .func (PySem.W.fnOf "_statement" "Touch._statement" (defArgs s_Touch__statement) (defBody s_Touch__statement) (defScope s_Touch__statement) .none kV10 dc10 pm10 an10 cd10 ct10), sl10⟩)
    (c10 : PySem.W.codeIn K cd10 "Touch._statement" = true)
    (k10 : PySem.W.keepIn K (.ref f10) = true)
    (a11 : PySem.W.findIn K (.ref C0) "__init__" = some (some (.ref f11)))
    (i11 : PySem.W.isFn K (.ref f11) = true)
    (l11 : K.lookup f11 = some ⟨oc11, od11, .func (PySem.W.fnOf "__init__" "Touch.__init__" (defArgs s_Touch_init) (defBody s_Touch_init) (defScope s_Touch_init) .none kV11 dc11 pm11 an11 cd11 ct11), sl11⟩)
    (c11 : PySem.W.codeIn K cd11 "Touch.__init__" = true)
    (k11 : PySem.W.keepIn K (.ref f11) = true)
    (a12 : PySem.W.nsIn K mainGlobals "touches" = some (some (.ref f12)))
    (l12 : K.lookup f12 = some ⟨oc12, od12, .func (PySem.W.fnOf "touches" "touches" (defArgs s_touches) (defBody s_touches) (defScope s_touches) .none kV12 dc12 pm12 an12 cd12 ct12), sl12⟩)
    (c12 : PySem.W.codeIn K cd12 "touches" = true)
    (k12 : PySem.W.keepIn K (.ref f12) = true)
    (a13 : PySem.W.nsIn K mainGlobals "apart" = some (some (.ref f13)))
    (l13 : K.lookup f13 = some ⟨oc13, od13, .func (PySem.W.fnOf "apart" "apart" (defArgs s_apart) (defBody s_apart) (defScope s_apart) .none kV13 dc13 pm13 an13 cd13 ct13), sl13⟩)
    (c13 : PySem.W.codeIn K cd13 "apart" = true)
    (k13 : PySem.W.keepIn K (.ref f13) = true)
    (a14 : PySem.W.nsIn K mainGlobals "_law_sorted" = some (some (.ref f14)))
    (l14 : K.lookup f14 = some ⟨oc14, od14, .func (PySem.W.fnOf "_law_sorted" "_law_sorted" (defArgs s__law_sorted) (defBody s__law_sorted) (defScope s__law_sorted) .none kV14 dc14 pm14 an14 cd14 ct14), sl14⟩)
    (c14 : PySem.W.codeIn K cd14 "_law_sorted" = true)
    (k14 : PySem.W.keepIn K (.ref f14) = true)
    (a15 : PySem.W.nsIn K mainGlobals "_law_seen" = some (some (.ref f15)))
    (l15 : K.lookup f15 = some ⟨oc15, od15, .func (PySem.W.fnOf "_law_seen" "_law_seen" (defArgs s__law_seen) (defBody s__law_seen) (defScope s__law_seen) .none kV15 dc15 pm15 an15 cd15 ct15), sl15⟩)
    (c15 : PySem.W.codeIn K cd15 "_law_seen" = true)
    (k15 : PySem.W.keepIn K (.ref f15) = true)
    (a16 : PySem.W.nsIn K mainGlobals "_law_nodes" = some (some (.ref f16)))
    (l16 : K.lookup f16 = some ⟨oc16, od16, .func (PySem.W.fnOf "_law_nodes" "_law_nodes" (defArgs s__law_nodes) (defBody s__law_nodes) (defScope s__law_nodes) .none kV16 dc16 pm16 an16 cd16 ct16), sl16⟩)
    (c16 : PySem.W.codeIn K cd16 "_law_nodes" = true)
    (k16 : PySem.W.keepIn K (.ref f16) = true)
    (a17 : PySem.W.nsIn K mainGlobals "_law_touches" = some (some (.ref f17)))
    (l17 : K.lookup f17 = some ⟨oc17, od17, .func (PySem.W.fnOf "_law_touches" "_law_touches" (defArgs s__law_touches) (defBody s__law_touches) (defScope s__law_touches) .none kV17 dc17 pm17 an17 cd17 ct17), sl17⟩)
    (c17 : PySem.W.codeIn K cd17 "_law_touches" = true)
    (k17 : PySem.W.keepIn K (.ref f17) = true)
    (a18 : PySem.W.nsIn K mainGlobals "_law_apart" = some (some (.ref f18)))
    (l18 : K.lookup f18 = some ⟨oc18, od18, .func (PySem.W.fnOf "_law_apart" "_law_apart" (defArgs s__law_apart) (defBody s__law_apart) (defScope s__law_apart) .none kV18 dc18 pm18 an18 cd18 ct18), sl18⟩)
    (c18 : PySem.W.codeIn K cd18 "_law_apart" = true)
    (k18 : PySem.W.keepIn K (.ref f18) = true)
    (a19 : PySem.W.nsIn K mainGlobals "_law_draw" = some (some (.ref f19)))
    (l19 : K.lookup f19 = some ⟨oc19, od19, .func (PySem.W.fnOf "_law_draw" "_law_draw" (defArgs s__law_draw) (defBody s__law_draw) (defScope s__law_draw) .none kV19 dc19 pm19 an19 cd19 ct19), sl19⟩)
    (c19 : PySem.W.codeIn K cd19 "_law_draw" = true)
    (k19 : PySem.W.keepIn K (.ref f19) = true)
    (a20 : PySem.W.nsIn K mainGlobals "_law_same" = some (some (.ref f20)))
    (l20 : K.lookup f20 = some ⟨oc20, od20, .func (PySem.W.fnOf "_law_same" "_law_same" (defArgs s__law_same) (defBody s__law_same) (defScope s__law_same) .none kV20 dc20 pm20 an20 cd20 ct20), sl20⟩)
    (c20 : PySem.W.codeIn K cd20 "_law_same" = true)
    (k20 : PySem.W.keepIn K (.ref f20) = true)
    (a21 : PySem.W.nsIn K mainGlobals "_law_alike" = some (some (.ref f21)))
    (l21 : K.lookup f21 = some ⟨oc21, od21, .func (PySem.W.fnOf "_law_alike" "_law_alike" (defArgs s__law_alike) (defBody s__law_alike) (defScope s__law_alike) .none kV21 dc21 pm21 an21 cd21 ct21), sl21⟩)
    (c21 : PySem.W.codeIn K cd21 "_law_alike" = true)
    (k21 : PySem.W.keepIn K (.ref f21) = true)
    (a22 : PySem.W.nsIn K mainGlobals "_law_leaf" = some (some (.ref f22)))
    (l22 : K.lookup f22 = some ⟨oc22, od22, .func (PySem.W.fnOf "_law_leaf" "_law_leaf" (defArgs s__law_leaf) (defBody s__law_leaf) (defScope s__law_leaf) .none kV22 dc22 pm22 an22 cd22 ct22), sl22⟩)
    (c22 : PySem.W.codeIn K cd22 "_law_leaf" = true)
    (k22 : PySem.W.keepIn K (.ref f22) = true)
    (a23 : PySem.W.nsIn K mainGlobals "_law_e" = some (some (.ref f23)))
    (l23 : K.lookup f23 = some ⟨oc23, od23, .func (PySem.W.fnOf "_law_e" "_law_e" (defArgs s__law_e) (defBody s__law_e) (defScope s__law_e) .none kV23 dc23 pm23 an23 cd23 ct23), sl23⟩)
    (c23 : PySem.W.codeIn K cd23 "_law_e" = true)
    (k23 : PySem.W.keepIn K (.ref f23) = true)
    (a24 : PySem.W.nsIn K mainGlobals "_law_s" = some (some (.ref f24)))
    (l24 : K.lookup f24 = some ⟨oc24, od24, .func (PySem.W.fnOf "_law_s" "_law_s" (defArgs s__law_s) (defBody s__law_s) (defScope s__law_s) .none kV24 dc24 pm24 an24 cd24 ct24), sl24⟩)
    (c24 : PySem.W.codeIn K cd24 "_law_s" = true)
    (k24 : PySem.W.keepIn K (.ref f24) = true)
    (a25 : PySem.W.nsIn K mainGlobals "_law_b" = some (some (.ref f25)))
    (l25 : K.lookup f25 = some ⟨oc25, od25, .func (PySem.W.fnOf "_law_b" "_law_b" (defArgs s__law_b) (defBody s__law_b) (defScope s__law_b) .none kV25 dc25 pm25 an25 cd25 ct25), sl25⟩)
    (c25 : PySem.W.codeIn K cd25 "_law_b" = true)
    (k25 : PySem.W.keepIn K (.ref f25) = true)
    (a26 : PySem.W.nsIn K mainGlobals "_law_names" = some (some (.ref f26)))
    (l26 : K.lookup f26 = some ⟨oc26, od26, .func (PySem.W.fnOf "_law_names" "_law_names" (defArgs s__law_names) (defBody s__law_names) (defScope s__law_names) .none kV26 dc26 pm26 an26 cd26 ct26), sl26⟩)
    (c26 : PySem.W.codeIn K cd26 "_law_names" = true)
    (k26 : PySem.W.keepIn K (.ref f26) = true)
    (a27 : PySem.W.nsIn K mainGlobals "_law_range" = some (some (.ref f27)))
    (l27 : K.lookup f27 = some ⟨oc27, od27, .func (PySem.W.fnOf "_law_range" "_law_range" (defArgs s__law_range) (defBody s__law_range) (defScope s__law_range) .none kV27 dc27 pm27 an27 cd27 ct27), sl27⟩)
    (c27 : PySem.W.codeIn K cd27 "_law_range" = true)
    (k27 : PySem.W.keepIn K (.ref f27) = true)
    (a28 : PySem.W.nsIn K mainGlobals "_law_declared" = some (some (.ref f28)))
    (l28 : K.lookup f28 = some ⟨oc28, od28, .func (PySem.W.fnOf "_law_declared" "_law_declared" (defArgs s__law_declared) (defBody s__law_declared) (defScope s__law_declared) .none kV28 dc28 pm28 an28 cd28 ct28), sl28⟩)
    (c28 : PySem.W.codeIn K cd28 "_law_declared" = true)
    (k28 : PySem.W.keepIn K (.ref f28) = true)
    (a29 : PySem.W.nsIn K mainGlobals "_law_world" = some (some (.ref f29)))
    (l29 : K.lookup f29 = some ⟨oc29, od29, .func (PySem.W.fnOf "_law_world" "_law_world" (defArgs s__law_world) (defBody s__law_world) (defScope s__law_world) .none kV29 dc29 pm29 an29 cd29 ct29), sl29⟩)
    (c29 : PySem.W.codeIn K cd29 "_law_world" = true)
    (k29 : PySem.W.keepIn K (.ref f29) = true)
    (a30 : PySem.W.nsIn K mainGlobals "_law_bag" = some (some (.ref f30)))
    (l30 : K.lookup f30 = some ⟨oc30, od30, .func (PySem.W.fnOf "_law_bag" "_law_bag" (defArgs s__law_bag) (defBody s__law_bag) (defScope s__law_bag) .none kV30 dc30 pm30 an30 cd30 ct30), sl30⟩)
    (c30 : PySem.W.codeIn K cd30 "_law_bag" = true)
    (k30 : PySem.W.keepIn K (.ref f30) = true)
    (a31 : PySem.W.nsIn K mainGlobals "law" = some (some (.ref f31)))
    (l31 : K.lookup f31 = some ⟨oc31, od31, .func (PySem.W.fnOf "law" "law" (defArgs s_law) (defBody s_law) (defScope s_law) .none kV31 dc31 pm31 an31 cd31 ct31), sl31⟩)
    (c31 : PySem.W.codeIn K cd31 "law" = true)
    (k31 : PySem.W.keepIn K (.ref f31) = true)
    (n_Touch__changes : PySem.W.findIn K (.ref C0) "_changes" = some none)
    (n_Touch__draws : PySem.W.findIn K (.ref C0) "_draws" = some none)
    (n_Touch__eaches : PySem.W.findIn K (.ref C0) "_eaches" = some none)
    (n_Touch__knobs : PySem.W.findIn K (.ref C0) "_knobs" = some none)
    (n_Touch__looks : PySem.W.findIn K (.ref C0) "_looks" = some none)
    (n_Touch__tells : PySem.W.findIn K (.ref C0) "_tells" = some none)
    (n_Touch__world : PySem.W.findIn K (.ref C0) "_world" = some none)
    (z_any : PySem.W.nsIn K mainGlobals "any" = some none)
    (z_bool : PySem.W.nsIn K mainGlobals "bool" = some none)
    (z_int : PySem.W.nsIn K mainGlobals "int" = some none)
    (z_isinstance : PySem.W.nsIn K mainGlobals "isinstance" = some none)
    (z_len : PySem.W.nsIn K mainGlobals "len" = some none)
    (z_max : PySem.W.nsIn K mainGlobals "max" = some none)
    (z_min : PySem.W.nsIn K mainGlobals "min" = some none)
    (z_range : PySem.W.nsIn K mainGlobals "range" = some none)
    (z_repr : PySem.W.nsIn K mainGlobals "repr" = some none)
    (z_sorted : PySem.W.nsIn K mainGlobals "sorted" = some none)
    (z_str : PySem.W.nsIn K mainGlobals "str" = some none)
    (z_tuple : PySem.W.nsIn K mainGlobals "tuple" = some none)
    (kg_KINDS : PySem.W.nsIn K mainGlobals "KINDS" = some (some (.ref ka_KINDS)))
    (hk_ka_KINDS : K.lookup ka_KINDS = some ⟨.type "tuple", ka_KINDSd, .seq #[(.str "value" ct_KINDS_0), (.str "field" ct_KINDS_1), (.str "things" ct_KINDS_2)] ka_KINDSn, ka_KINDSs⟩) :
    ∃ fd : FuncData, (∀ (s : Shared) (v : Value), BindsTo s fd ⟨[v], []⟩ [("script", v)]) ∧ ∀ base : Heap, K.In base → base.Ns mainGlobals mg → FnOk l.prog w K mg base (L2.CX l.prog w) 95 fa fd ["script"] (spLaw K) := by
  have e := hfa.symm.trans (PySem.W.mg_of X G a31)
  cases e
  have cls_Touch : Cls K C0 := ⟨pg_Touch, hd_Touch, po_Touch, sa_Touch⟩
  have T : Tx K mg (caOf C0) := {
    f_meet := ⟨_, _, PySem.W.mg_of X G a0, k0, (fun_mk (st := s_meet) l0 c0 k0)⟩
    f_ordered := ⟨_, _, PySem.W.mg_of X G a1, k1, (fun_mk (st := s_ordered) l1 c1 k1)⟩
    f_Touch_told := ⟨_, _, cls_Touch, ⟨a2, i2, k2⟩, (fun_mk (st := s_Touch_told) l2 c2 k2)⟩
    f_Touch_look := ⟨_, _, cls_Touch, ⟨a3, i3, k3⟩, (fun_mk (st := s_Touch_look) l3 c3 k3)⟩
    f_Touch__field := ⟨_, _, cls_Touch, ⟨a4, i4, k4⟩, (fun_mk (st := s_Touch__field) l4 c4 k4)⟩
    f_Touch_expression := ⟨_, _, cls_Touch, ⟨a5, i5, k5⟩, (fun_mk (st := s_Touch_expression) l5 c5 k5)⟩
    f_Touch__one := ⟨_, _, cls_Touch, ⟨a6, i6, k6⟩, (fun_mk (st := s_Touch__one) l6 c6 k6)⟩
    f_Touch_change := ⟨_, _, cls_Touch, ⟨a7, i7, k7⟩, (fun_mk (st := s_Touch_change) l7 c7 k7)⟩
    f_Touch__make := ⟨_, _, cls_Touch, ⟨a8, i8, k8⟩, (fun_mk (st := s_Touch__make) l8 c8 k8)⟩
    f_Touch_body := ⟨_, _, cls_Touch, ⟨a9, i9, k9⟩, (fun_mk (st := s_Touch_body) l9 c9 k9)⟩
    f_Touch__statement := ⟨_, _, cls_Touch, ⟨a10, i10, k10⟩, (fun_mk (st := s_Touch__statement) l10 c10 k10)⟩
    f_Touch_init := ⟨_, _, PySem.W.mg_of X G a_Touch, ⟨mk_Touch, a11, i11, kc_Touch⟩, (fun_mk (st := s_Touch_init) l11 c11 k11)⟩
    f_touches := ⟨_, _, PySem.W.mg_of X G a12, k12, (fun_mk (st := s_touches) l12 c12 k12)⟩
    f_apart := ⟨_, _, PySem.W.mg_of X G a13, k13, (fun_mk (st := s_apart) l13 c13 k13)⟩
    f__law_sorted := ⟨_, _, PySem.W.mg_of X G a14, k14, (fun_mk (st := s__law_sorted) l14 c14 k14)⟩
    f__law_seen := ⟨_, _, PySem.W.mg_of X G a15, k15, (fun_mk (st := s__law_seen) l15 c15 k15)⟩
    f__law_nodes := ⟨_, _, PySem.W.mg_of X G a16, k16, (fun_mk (st := s__law_nodes) l16 c16 k16)⟩
    f__law_touches := ⟨_, _, PySem.W.mg_of X G a17, k17, (fun_mk (st := s__law_touches) l17 c17 k17)⟩
    f__law_apart := ⟨_, _, PySem.W.mg_of X G a18, k18, (fun_mk (st := s__law_apart) l18 c18 k18)⟩
    f__law_draw := ⟨_, _, PySem.W.mg_of X G a19, k19, (fun_mk (st := s__law_draw) l19 c19 k19)⟩
    f__law_same := ⟨_, _, PySem.W.mg_of X G a20, k20, (fun_mk (st := s__law_same) l20 c20 k20)⟩
    f__law_alike := ⟨_, _, PySem.W.mg_of X G a21, k21, (fun_mk (st := s__law_alike) l21 c21 k21)⟩
    f__law_leaf := ⟨_, _, PySem.W.mg_of X G a22, k22, (fun_mk (st := s__law_leaf) l22 c22 k22)⟩
    f__law_e := ⟨_, _, PySem.W.mg_of X G a23, k23, (fun_mk (st := s__law_e) l23 c23 k23)⟩
    f__law_s := ⟨_, _, PySem.W.mg_of X G a24, k24, (fun_mk (st := s__law_s) l24 c24 k24)⟩
    f__law_b := ⟨_, _, PySem.W.mg_of X G a25, k25, (fun_mk (st := s__law_b) l25 c25 k25)⟩
    f__law_names := ⟨_, _, PySem.W.mg_of X G a26, k26, (fun_mk (st := s__law_names) l26 c26 k26)⟩
    f__law_range := ⟨_, _, PySem.W.mg_of X G a27, k27, (fun_mk (st := s__law_range) l27 c27 k27)⟩
    f__law_declared := ⟨_, _, PySem.W.mg_of X G a28, k28, (fun_mk (st := s__law_declared) l28 c28 k28)⟩
    f__law_world := ⟨_, _, PySem.W.mg_of X G a29, k29, (fun_mk (st := s__law_world) l29 c29 k29)⟩
    f__law_bag := ⟨_, _, PySem.W.mg_of X G a30, k30, (fun_mk (st := s__law_bag) l30 c30 k30)⟩
    f_law := ⟨_, _, PySem.W.mg_of X G a31, k31, (fun_mk (st := s_law) l31 c31 k31)⟩
    fl__changes := List.forall_mem_cons.mpr ⟨⟨cls_Touch, n_Touch__changes⟩, fun _ z => absurd z (List.not_mem_nil)⟩
    fl__draws := List.forall_mem_cons.mpr ⟨⟨cls_Touch, n_Touch__draws⟩, fun _ z => absurd z (List.not_mem_nil)⟩
    fl__eaches := List.forall_mem_cons.mpr ⟨⟨cls_Touch, n_Touch__eaches⟩, fun _ z => absurd z (List.not_mem_nil)⟩
    fl__knobs := List.forall_mem_cons.mpr ⟨⟨cls_Touch, n_Touch__knobs⟩, fun _ z => absurd z (List.not_mem_nil)⟩
    fl__looks := List.forall_mem_cons.mpr ⟨⟨cls_Touch, n_Touch__looks⟩, fun _ z => absurd z (List.not_mem_nil)⟩
    fl__tells := List.forall_mem_cons.mpr ⟨⟨cls_Touch, n_Touch__tells⟩, fun _ z => absurd z (List.not_mem_nil)⟩
    fl__world := List.forall_mem_cons.mpr ⟨⟨cls_Touch, n_Touch__world⟩, fun _ z => absurd z (List.not_mem_nil)⟩
    z_any := PySem.W.mg_none_of X G z_any
    z_bool := PySem.W.mg_none_of X G z_bool
    z_int := PySem.W.mg_none_of X G z_int
    z_isinstance := PySem.W.mg_none_of X G z_isinstance
    z_len := PySem.W.mg_none_of X G z_len
    z_max := PySem.W.mg_none_of X G z_max
    z_min := PySem.W.mg_none_of X G z_min
    z_range := PySem.W.mg_none_of X G z_range
    z_repr := PySem.W.mg_none_of X G z_repr
    z_sorted := PySem.W.mg_none_of X G z_sorted
    z_str := PySem.W.mg_none_of X G z_str
    z_tuple := PySem.W.mg_none_of X G z_tuple
    k_KINDS := ⟨_, PySem.W.mg_of X G kg_KINDS, (.tup hk_ka_KINDS rfl rfl (Nat.le_of_ble_eq_true rfl) (.cons .str (.cons .str (.cons .str .nil))))⟩
  }
  exact ⟨PySem.W.fnOf "law" "law" (defArgs s_law) (defBody s_law) (defScope s_law) .none kV31 dc31 pm31 an31 cd31 ct31, fun s v => .of_eq rfl, fun base _ _ => law_of (fn_law T (fun_mk (st := s_law) l31 c31 k31)) hm⟩
end PMl
open PySem PySem.W PyProof.Rows
set_option maxRecDepth 100000 in
set_option maxHeartbeats 0 in
theorem PySem.Challenge.cw_latemoves_k95_what_rules_touch_holds : PySem.Challenge.rw_latemoves_k95_what_rules_touch.Holds := by
  w_on; o_law; k_head; (case hw => w_witness2)
  k_fill
  refine PM.walk (l := PySem.Challenge.rw_latemoves_k95_what_rules_touch) 95 ⟨rfl, by decide, by decide⟩ rfl rfl (fun w h Y => PySem.W.kIn_of Y) ?F
  case F =>
    intro w mg fa h KX G hmg
    refine' PMl.all_mk KX G hmg PMl.law_holds ?a_Touch ?pg_Touch ?hd_Touch ?po_Touch ?sa_Touch ?mk_Touch ?kc_Touch ?a0 ?l0 ?c0 ?k0 ?a1 ?l1 ?c1 ?k1 ?a2 ?i2 ?l2 ?c2 ?k2 ?a3 ?i3 ?l3 ?c3 ?k3 ?a4 ?i4 ?l4 ?c4 ?k4 ?a5 ?i5 ?l5 ?c5 ?k5 ?a6 ?i6 ?l6 ?c6 ?k6 ?a7 ?i7 ?l7 ?c7 ?k7 ?a8 ?i8 ?l8 ?c8 ?k8 ?a9 ?i9 ?l9 ?c9 ?k9 ?a10 ?i10 ?l10 ?c10 ?k10 ?a11 ?i11 ?l11 ?c11 ?k11 ?a12 ?l12 ?c12 ?k12 ?a13 ?l13 ?c13 ?k13 ?a14 ?l14 ?c14 ?k14 ?a15 ?l15 ?c15 ?k15 ?a16 ?l16 ?c16 ?k16 ?a17 ?l17 ?c17 ?k17 ?a18 ?l18 ?c18 ?k18 ?a19 ?l19 ?c19 ?k19 ?a20 ?l20 ?c20 ?k20 ?a21 ?l21 ?c21 ?k21 ?a22 ?l22 ?c22 ?k22 ?a23 ?l23 ?c23 ?k23 ?a24 ?l24 ?c24 ?k24 ?a25 ?l25 ?c25 ?k25 ?a26 ?l26 ?c26 ?k26 ?a27 ?l27 ?c27 ?k27 ?a28 ?l28 ?c28 ?k28 ?a29 ?l29 ?c29 ?k29 ?a30 ?l30 ?c30 ?k30 ?a31 ?l31 ?c31 ?k31 ?n_Touch__changes ?n_Touch__draws ?n_Touch__eaches ?n_Touch__knobs ?n_Touch__looks ?n_Touch__tells ?n_Touch__world ?z_any ?z_bool ?z_int ?z_isinstance ?z_len ?z_max ?z_min ?z_range ?z_repr ?z_sorted ?z_str ?z_tuple ?kg_KINDS ?hk_ka_KINDS
    (case a_Touch => k_is)
    (case pg_Touch => k_is)
    (case hd_Touch => k_is)
    (case po_Touch => k_is)
    (case sa_Touch => k_is)
    (case mk_Touch => k_is)
    (case kc_Touch => k_is)
    (case a0 => k_is)
    (case l0 => k_is)
    (case c0 => k_is)
    (case k0 => k_is)
    (case a1 => k_is)
    (case l1 => k_is)
    (case c1 => k_is)
    (case k1 => k_is)
    (case a2 => k_is)
    (case i2 => k_is)
    (case l2 => k_is)
    (case c2 => k_is)
    (case k2 => k_is)
    (case a3 => k_is)
    (case i3 => k_is)
    (case l3 => k_is)
    (case c3 => k_is)
    (case k3 => k_is)
    (case a4 => k_is)
    (case i4 => k_is)
    (case l4 => k_is)
    (case c4 => k_is)
    (case k4 => k_is)
    (case a5 => k_is)
    (case i5 => k_is)
    (case l5 => k_is)
    (case c5 => k_is)
    (case k5 => k_is)
    (case a6 => k_is)
    (case i6 => k_is)
    (case l6 => k_is)
    (case c6 => k_is)
    (case k6 => k_is)
    (case a7 => k_is)
    (case i7 => k_is)
    (case l7 => k_is)
    (case c7 => k_is)
    (case k7 => k_is)
    (case a8 => k_is)
    (case i8 => k_is)
    (case l8 => k_is)
    (case c8 => k_is)
    (case k8 => k_is)
    (case a9 => k_is)
    (case i9 => k_is)
    (case l9 => k_is)
    (case c9 => k_is)
    (case k9 => k_is)
    (case a10 => k_is)
    (case i10 => k_is)
    (case l10 => k_is)
    (case c10 => k_is)
    (case k10 => k_is)
    (case a11 => k_is)
    (case i11 => k_is)
    (case l11 => k_is)
    (case c11 => k_is)
    (case k11 => k_is)
    (case a12 => k_is)
    (case l12 => k_is)
    (case c12 => k_is)
    (case k12 => k_is)
    (case a13 => k_is)
    (case l13 => k_is)
    (case c13 => k_is)
    (case k13 => k_is)
    (case a14 => k_is)
    (case l14 => k_is)
    (case c14 => k_is)
    (case k14 => k_is)
    (case a15 => k_is)
    (case l15 => k_is)
    (case c15 => k_is)
    (case k15 => k_is)
    (case a16 => k_is)
    (case l16 => k_is)
    (case c16 => k_is)
    (case k16 => k_is)
    (case a17 => k_is)
    (case l17 => k_is)
    (case c17 => k_is)
    (case k17 => k_is)
    (case a18 => k_is)
    (case l18 => k_is)
    (case c18 => k_is)
    (case k18 => k_is)
    (case a19 => k_is)
    (case l19 => k_is)
    (case c19 => k_is)
    (case k19 => k_is)
    (case a20 => k_is)
    (case l20 => k_is)
    (case c20 => k_is)
    (case k20 => k_is)
    (case a21 => k_is)
    (case l21 => k_is)
    (case c21 => k_is)
    (case k21 => k_is)
    (case a22 => k_is)
    (case l22 => k_is)
    (case c22 => k_is)
    (case k22 => k_is)
    (case a23 => k_is)
    (case l23 => k_is)
    (case c23 => k_is)
    (case k23 => k_is)
    (case a24 => k_is)
    (case l24 => k_is)
    (case c24 => k_is)
    (case k24 => k_is)
    (case a25 => k_is)
    (case l25 => k_is)
    (case c25 => k_is)
    (case k25 => k_is)
    (case a26 => k_is)
    (case l26 => k_is)
    (case c26 => k_is)
    (case k26 => k_is)
    (case a27 => k_is)
    (case l27 => k_is)
    (case c27 => k_is)
    (case k27 => k_is)
    (case a28 => k_is)
    (case l28 => k_is)
    (case c28 => k_is)
    (case k28 => k_is)
    (case a29 => k_is)
    (case l29 => k_is)
    (case c29 => k_is)
    (case k29 => k_is)
    (case a30 => k_is)
    (case l30 => k_is)
    (case c30 => k_is)
    (case k30 => k_is)
    (case a31 => k_is)
    (case l31 => k_is)
    (case c31 => k_is)
    (case k31 => k_is)
    (case n_Touch__changes => k_is)
    (case n_Touch__draws => k_is)
    (case n_Touch__eaches => k_is)
    (case n_Touch__knobs => k_is)
    (case n_Touch__looks => k_is)
    (case n_Touch__tells => k_is)
    (case n_Touch__world => k_is)
    (case z_any => k_is)
    (case z_bool => k_is)
    (case z_int => k_is)
    (case z_isinstance => k_is)
    (case z_len => k_is)
    (case z_max => k_is)
    (case z_min => k_is)
    (case z_range => k_is)
    (case z_repr => k_is)
    (case z_sorted => k_is)
    (case z_str => k_is)
    (case z_tuple => k_is)
    (case kg_KINDS => k_is)
    (case hk_ka_KINDS => k_is)
#print axioms PySem.Challenge.cw_latemoves_k95_what_rules_touch_holds

