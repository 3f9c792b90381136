import PyProof.Rows.All
import Wide.All
import OpenK.AllK
import Wide.FinOn
import HandS.ForMost
import HandS.Exc
import HandS.ExcOwn
import HandS.TryOnly
import HandS.WordsExc
import HandS.CallSlots
import HandS.TupAny
import HandS.Wide
import HandS.Deep
import HandS.IsInst
import HandS.SortInts
import HandS.More
import HandS.DictComp
import HandS.SetFor
import HandS.Strs
import HandS.Ends
import PySem.Challenge.RW_latemoves_k25_disks_by_the_rules
set_option Elab.async false
set_option linter.all false
set_option maxRecDepth 100000
set_option maxHeartbeats 4000000
/-! PM1: plain values and a store of objects; how they lie in the abstract heap. -/
namespace PM
open PySem PySem.Spec PyProof.Rows L2

/-- a plain value: tuples as data; con: a list that is only read (the script); loc: an object of the store -/
inductive D where
  | non | bl (b : Bool) | int (i : Int) | str (x : Str) | tup (xs : List D) | con (xs : List D) | loc (n : Nat)
/-- an object of the store: a list; a dict (keys ints and texts), the same while it is walked, a dict with tuples as keys; an instance of class number c -/
inductive O where
  | lst (xs : List D) | dct (kvs : List (Key × D)) | fdc (kvs : List (Key × D)) | dtt (kvs : List (List Key × D)) | ins (c : Nat) (fs : List (Str × D))
abbrev Sto := List O

/-- a result: a value and the store behind; an exception of class number c with its fields; none that is told -/
inductive R (α : Type) where
  | ok (a : α) (st : Sto) | exc (c : Nat) (fs : List (Str × D)) (st : Sto) | bad
def R.bind {α β : Type} : R α → (α → Sto → R β) → R β
  | .ok a st, f => f a st
  | .exc c fs st, _ => .exc c fs st
  | .bad, _ => .bad
@[simp] theorem R.bind_ok {α β : Type} (a : α) (st : Sto) (f : α → Sto → R β) : (R.ok a st).bind f = f a st := rfl
@[simp] theorem R.bind_exc {α β : Type} (c : Nat) (fs : List (Str × D)) (st : Sto) (f : α → Sto → R β) : (R.exc c fs st).bind f = .exc c fs st := rfl
@[simp] theorem R.bind_bad {α β : Type} (f : α → Sto → R β) : (R.bad : R α).bind f = .bad := rfl

abbrev Frag := PySem.W.Frag

/-- a list that is only read -/
def ConL (K : Frag) (H : Hp) (a : Addr) (xs : List V) : Prop :=
  (∃ o, H a = some (.frz o (.lst xs))) ∨
    ∃ (o : Obj) (its : Array Value) (n : Nat), K.lookup a = some o ∧ o.cls = .type "list" ∧ o.dict = none ∧ o.data = .seq its n ∧ its.size ≤ sizeLine ∧ Vals xs its.toList
theorem ConL.sq {K : Frag} {H : Hp} {a : Addr} {xs : List V} (h : ConL K H a xs) : SqL K H a xs := by
  rcases h with ⟨o, h⟩ | h
  · exact .inl (.inr ⟨o, h⟩)
  · exact .inr h

mutual
inductive RV (K : Frag) (α : Nat → Addr) (N : Nat) (H : Hp) : D → V → Prop
  | non : RV K α N H .non .non
  | bl (b : Bool) : RV K α N H (.bl b) (.bl b)
  | int (i : Int) : RV K α N H (.int i) (.int i)
  | str (x : Str) : RV K α N H (.str x) (.str x)
  | tup {a : Addr} {vs : List V} {xs : List D} : SqT K H a vs → RVs K α N H xs vs → RV K α N H (.tup xs) (.ref a)
  | con {a : Addr} {vs : List V} {xs : List D} : ConL K H a vs → RVs K α N H xs vs → RV K α N H (.con xs) (.ref a)
  | loc {n : Nat} : n < N → RV K α N H (.loc n) (.ref (α n))
inductive RVs (K : Frag) (α : Nat → Addr) (N : Nat) (H : Hp) : List D → List V → Prop
  | nil : RVs K α N H [] []
  | cons {d : D} {v : V} {xs : List D} {vs : List V} : RV K α N H d v → RVs K α N H xs vs → RVs K α N H (d :: xs) (v :: vs)
end

/-- pairs of keys and values -/
inductive RKs (K : Frag) (α : Nat → Addr) (N : Nat) (H : Hp) {κ : Type} : List (κ × D) → List (κ × V) → Prop
  | nil : RKs K α N H [] []
  | cons {k : κ} {d : D} {v : V} {xs : List (κ × D)} {vs : List (κ × V)} : RV K α N H d v → RKs K α N H xs vs → RKs K α N H ((k, d) :: xs) ((k, v) :: vs)

/-- an object of the store and what is tracked of it -/
inductive RO (K : Frag) (ca : Nat → Addr) (α : Nat → Addr) (N : Nat) (H : Hp) : O → HO → Prop
  | lst {xs : List D} {vs : List V} : RVs K α N H xs vs → RO K ca α N H (.lst xs) (.lst vs)
  | dct {xs : List (Key × D)} {vs : List (Key × V)} : RKs K α N H xs vs → RO K ca α N H (.dct xs) (.dK vs)
  | fdc {o : Obj} {xs : List (Key × D)} {vs : List (Key × V)} : RKs K α N H xs vs → RO K ca α N H (.fdc xs) (.frz o (.dK vs))
  | dtt {xs : List (List Key × D)} {vs : List (List Key × V)} : RKs K α N H xs vs → RO K ca α N H (.dtt xs) (.dT vs)
  | ins {c : Nat} {dx : Addr} {fs : List (Str × D)} {gs : List (Str × V)} : RKs K α N H fs gs → RO K ca α N H (.ins c fs) (.ins (ca c) dx gs)

/-- the store lies in the heap -/
structure Lk (K : Frag) (ca : Nat → Addr) (α : Nat → Addr) (st : Sto) (H : Hp) : Prop where
  at_ : ∀ n o, st[n]? = some o → ∃ ho, H (α n) = some ho ∧ RO K ca α st.length H o ho
  inj : ∀ i j, i < st.length → j < st.length → α i = α j → i = j

/-- what values lean on -/
structure Gr (K : Frag) (α : Nat → Addr) (N : Nat) (H : Hp) (α' : Nat → Addr) (N' : Nat) (H' : Hp) : Prop where
  le : N ≤ N'
  ag : ∀ n, n < N → α' n = α n
  tup : ∀ a vs, SqT K H a vs → SqT K H' a vs
  con : ∀ a vs, ConL K H a vs → ConL K H' a vs
/-- what is kept from one state to a later one -/
structure Xt (K : Frag) (α : Nat → Addr) (N : Nat) (H : Hp) (α' : Nat → Addr) (N' : Nat) (H' : Hp) : Prop extends Gr K α N H α' N' H' where
  new : ∀ n, N ≤ n → n < N' → H (α' n) = none
  keep : ∀ a o, H a = some o → (∀ n, n < N → α n ≠ a) → H' a = some o
  old : ∀ n, n < N → H (α n) ≠ none → H' (α n) ≠ none
  frz : ∀ a o u, H a = some (.frz o u) → H' a = some (.frz o u)

section
variable {K : Frag} {ca : Nat → Addr} {α α' α'' : Nat → Addr} {N N' N'' : Nat} {H H' H'' : Hp} {st st' : Sto}

theorem Xt.refl : Xt K α N H α N H := ⟨⟨Nat.le_refl _, fun _ _ => rfl, fun _ _ h => h, fun _ _ h => h⟩, fun n h h' => absurd h' (Nat.not_lt.mpr h), fun _ _ h _ => h, fun _ _ h => h, fun _ _ _ h => h⟩
theorem Xt.fresh (a : Xt K α N H α' N' H') {p : Addr} (h : H' p = none) : H p = none := by
  cases e : H p with
  | none => rfl
  | some o =>
    by_cases hi : ∃ m, m < N ∧ α m = p
    · obtain ⟨m, hm, em⟩ := hi
      exact absurd (em ▸ h) (a.old m hm (by rw [em, e]; exact fun z => by cases z))
    · rw [a.keep _ o e fun m hm em => hi ⟨m, hm, em⟩] at h
      cases h
theorem Xt.trans (a : Xt K α N H α' N' H') (b : Xt K α' N' H' α'' N'' H'') : Xt K α N H α'' N'' H'' where
  le := Nat.le_trans a.le b.le
  ag := fun n h => (b.ag n (Nat.lt_of_lt_of_le h a.le)).trans (a.ag n h)
  new := fun n h h' => by
    by_cases hn : n < N'
    · rw [b.ag n hn]; exact a.new n h hn
    · exact a.fresh (b.new n (Nat.le_of_not_lt hn) h')
  keep := fun c o h hn => b.keep c o (a.keep c o h hn) fun n h' e => by
    by_cases hN : n < N
    · rw [a.ag n hN] at e; exact hn n hN e
    · have := a.new n (Nat.le_of_not_lt hN) h'
      rw [e, h] at this; cases this
  tup := fun c vs h => b.tup c vs (a.tup c vs h)
  con := fun c vs h => b.con c vs (a.con c vs h)
  old := fun n h ho => by
    have h1 := a.old n h ho
    have e := a.ag n h
    rw [← e] at h1 ⊢
    exact b.old n (Nat.lt_of_lt_of_le h a.le) h1
  frz := fun c o u h => b.frz c o u (a.frz c o u h)

mutual
theorem RV.mono (x : Gr K α N H α' N' H') : ∀ {d : D} {v : V}, RV K α N H d v → RV K α' N' H' d v
  | _, _, .non => .non
  | _, _, .bl b => .bl b
  | _, _, .int i => .int i
  | _, _, .str s => .str s
  | _, _, .tup h r => .tup (x.tup _ _ h) (RVs.mono x r)
  | _, _, .con h r => .con (x.con _ _ h) (RVs.mono x r)
  | _, _, .loc h => by rw [← x.ag _ h]; exact .loc (Nat.lt_of_lt_of_le h x.le)
theorem RVs.mono (x : Gr K α N H α' N' H') : ∀ {d : List D} {v : List V}, RVs K α N H d v → RVs K α' N' H' d v
  | _, _, .nil => .nil
  | _, _, .cons h r => .cons (RV.mono x h) (RVs.mono x r)
end
theorem RKs.mono {κ : Type} (x : Gr K α N H α' N' H') : ∀ {d : List (κ × D)} {v : List (κ × V)}, RKs K α N H d v → RKs K α' N' H' d v
  | _, _, .nil => .nil
  | _, _, .cons h r => .cons (h.mono x) (RKs.mono x r)
theorem RO.mono (x : Gr K α N H α' N' H') {o : O} {ho : HO} (r : RO K ca α N H o ho) : RO K ca α' N' H' o ho := by
  cases r with
  | lst r => exact .lst (r.mono x)
  | dct r => exact .dct (r.mono x)
  | fdc r => exact .fdc (r.mono x)
  | dtt r => exact .dtt (r.mono x)
  | ins r => exact .ins (r.mono x)
theorem RVs.length : ∀ {d : List D} {v : List V}, RVs K α N H d v → d.length = v.length
  | _, _, .nil => rfl
  | _, _, .cons _ r => congrArg (· + 1) r.length
theorem RVs.append : ∀ {d e : List D} {v w : List V}, RVs K α N H d v → RVs K α N H e w → RVs K α N H (d ++ e) (v ++ w)
  | _, _, _, _, .nil, s => s
  | _, _, _, _, .cons r t, s => .cons r (RVs.append t s)
theorem RVs.take : ∀ {d : List D} {v : List V} (n : Nat), RVs K α N H d v → RVs K α N H (d.take n) (v.take n)
  | _, _, 0, _ => .nil
  | _, _, _ + 1, .nil => .nil
  | _, _, n + 1, .cons r t => .cons r (RVs.take n t)
theorem RVs.drop : ∀ {d : List D} {v : List V} (n : Nat), RVs K α N H d v → RVs K α N H (d.drop n) (v.drop n)
  | _, _, 0, r => r
  | _, _, _ + 1, .nil => .nil
  | _, _, n + 1, .cons _ t => RVs.drop n t
theorem RVs.set {x : D} {y : V} (r : RV K α N H x y) : ∀ {d : List D} {v : List V} (i : Nat), RVs K α N H d v → RVs K α N H (d.set i x) (v.set i y)
  | _, _, _, .nil => .nil
  | _, _, 0, .cons _ t => .cons r t
  | _, _, i + 1, .cons q t => .cons q (RVs.set r i t)
theorem RVs.get : ∀ {d : List D} {v : List V} {i : Nat} {x : D}, RVs K α N H d v → d[i]? = some x → ∃ y, v[i]? = some y ∧ RV K α N H x y
  | _, _, _, _, .nil, e => by simp at e
  | _, _, 0, _, .cons r _, e => by simp at e; subst e; exact ⟨_, rfl, r⟩
  | _, _, i + 1, x, .cons _ t, e => by
    obtain ⟨y, h1, h2⟩ := RVs.get (i := i) (x := x) t (by simpa using e)
    exact ⟨y, by simpa using h1, h2⟩
theorem RVs.getV : ∀ {d : List D} {v : List V} {i : Nat} {y : V}, RVs K α N H d v → v[i]? = some y → ∃ x, d[i]? = some x ∧ RV K α N H x y
  | _, _, _, _, .nil, e => by simp at e
  | _, _, 0, _, .cons r _, e => by simp at e; subst e; exact ⟨_, rfl, r⟩
  | _, _, i + 1, x, .cons _ t, e => by
    obtain ⟨y, h1, h2⟩ := RVs.getV (i := i) (y := x) t (by simpa using e)
    exact ⟨y, by simpa using h1, h2⟩
theorem RVs.reverse {d : List D} {v : List V} (h : RVs K α N H d v) : RVs K α N H d.reverse v.reverse := by
  induction h using RVs.rec (motive_1 := fun _ _ _ => True) with
  | nil => exact .nil
  | cons r _ _ ih => rw [List.reverse_cons, List.reverse_cons]; exact ih.append (.cons r .nil)
  | _ => trivial
theorem RVs.rep {d : List D} {v : List V} (h : RVs K α N H d v) : ∀ k : Nat, RVs K α N H (List.replicate k d).flatten (List.replicate k v).flatten
  | 0 => .nil
  | k + 1 => by rw [List.replicate_succ, List.replicate_succ, List.flatten_cons, List.flatten_cons]; exact h.append (RVs.rep h k)

theorem Lk.lt_of {n : Nat} {o : O} (h : st[n]? = some o) : n < st.length := (List.getElem?_eq_some_iff.mp h).1
theorem Lk.some_of {n : Nat} (h : n < st.length) : ∃ o, st[n]? = some o := ⟨st[n], by simp [h]⟩
theorem Lk.there (L : Lk K ca α st H) {n : Nat} (h : n < st.length) : ∃ ho, H (α n) = some ho := by
  obtain ⟨o, ho⟩ := Lk.some_of h
  obtain ⟨x, hx, _⟩ := L.at_ n o ho
  exact ⟨x, hx⟩
/-- the kinds of a store's objects -/
theorem RO.ntup {o : O} {ho : HO} (r : RO K ca α N H o ho) : ∀ xs, ho ≠ .tup xs := by intro xs e; subst e; cases r
theorem RO.nftup {o : O} {ho : HO} (r : RO K ca α N H o ho) : ∀ ob xs, ho ≠ .frz ob (.tup xs) := by intro ob xs e; subst e; cases r
theorem RO.nflst {o : O} {ho : HO} (r : RO K ca α N H o ho) : ∀ ob xs, ho ≠ .frz ob (.lst xs) := by intro ob xs e; subst e; cases r

/-- a change at one address which holds no tuple and no read-only list -/
theorem sqT_upd {p : Addr} {ho : HO} (h1 : ∀ xs, H p ≠ some (.tup xs)) (h2 : ∀ o xs, H p ≠ some (.frz o (.tup xs))) {a : Addr} {vs : List V} (h : SqT K H a vs) : SqT K (upd H p ho) a vs := by
  rcases h with (h | ⟨o, h⟩) | h
  · exact .inl (.inl (by rw [upd_ne (fun e => h1 _ (e ▸ h))]; exact h))
  · exact .inl (.inr ⟨o, by rw [upd_ne (fun e => h2 _ _ (e ▸ h))]; exact h⟩)
  · exact .inr h
theorem conL_upd {p : Addr} {ho : HO} (h1 : ∀ o xs, H p ≠ some (.frz o (.lst xs))) {a : Addr} {vs : List V} (h : ConL K H a vs) : ConL K (upd H p ho) a vs := by
  rcases h with ⟨o, h⟩ | h
  · exact .inl ⟨o, by rw [upd_ne (fun e => h1 _ _ (e ▸ h))]; exact h⟩
  · exact .inr h

/-- a new object that no name of the store holds (a tuple, a list in passing) -/
theorem xt_new {p : Addr} {ho : HO} (hp : H p = none) : Xt K α N H α N (upd H p ho) :=
  ⟨⟨Nat.le_refl _, fun _ _ => rfl,
    fun a vs h => sqT_upd (fun xs z => by rw [hp] at z; cases z) (fun o xs z => by rw [hp] at z; cases z) h,
    fun a vs h => conL_upd (fun o xs z => by rw [hp] at z; cases z) h⟩, fun n h h' => absurd h' (Nat.not_lt.mpr h), fun a o h _ => by rw [upd_ne (ne_of_none h hp)]; exact h,
    fun n _ ho => by
      by_cases e : α n = p
      · rw [e, upd_same]; exact fun z => by cases z
      · rw [upd_ne e]; exact ho,
    fun a o u h => by rw [upd_ne (ne_of_none h hp)]; exact h⟩
theorem Lk.temp {p : Addr} {ho : HO} (L : Lk K ca α st H) (hp : H p = none) : Lk K ca α st (upd H p ho) :=
  ⟨fun n o h => by
    obtain ⟨x, hx, r⟩ := L.at_ n o h
    exact ⟨x, by rw [upd_ne (ne_of_none hx hp)]; exact hx, r.mono (xt_new hp).toGr⟩, L.inj⟩
/-- an address for the next object -/
def ext (α : Nat → Addr) (N : Nat) (p : Addr) : Nat → Addr := fun n => if n = N then p else α n
theorem ext_at {p : Addr} : ext α N p N = p := if_pos rfl
theorem ext_lt {p : Addr} {n : Nat} (h : n < N) : ext α N p n = α n := if_neg (Nat.ne_of_lt h)
theorem gr_ext {p : Addr} : Gr K α N H (ext α N p) (N + 1) H := ⟨Nat.le_succ _, fun _ h => ext_lt h, fun _ _ h => h, fun _ _ h => h⟩
/-- an object in passing is taken into the store -/
theorem Lk.adopt {H0 : Hp} {α0 : Nat → Addr} {N0 : Nat} {p : Addr} {o : O} {ho : HO} (L : Lk K ca α st H) (hp : H p = some ho) (hn : ∀ n, n < st.length → α n ≠ p) (r : RO K ca α st.length H o ho) (x : Xt K α0 N0 H0 α st.length H) (hf : H0 p = none) :
    Lk K ca (ext α st.length p) (st ++ [o]) H ∧ Xt K α0 N0 H0 (ext α st.length p) (st ++ [o]).length H := by
  have el : (st ++ [o]).length = st.length + 1 := by simp
  rw [el]
  refine ⟨⟨fun n o' h => ?_, fun i j hi hj e => ?_⟩, ⟨⟨Nat.le_succ_of_le x.le, fun n h => (ext_lt (Nat.lt_of_lt_of_le h x.le)).trans (x.ag n h), x.tup, x.con⟩, fun n h h' => ?_, x.keep, x.old, x.frz⟩⟩
  · by_cases hl : n < st.length
    · rw [List.getElem?_append_left hl] at h
      obtain ⟨x', hx, r'⟩ := L.at_ n o' h
      rw [ext_lt hl, el]
      exact ⟨x', hx, r'.mono gr_ext⟩
    · have hlt := Lk.lt_of h
      have hN : n = st.length := by rw [el] at hlt; omega
      subst hN
      rw [List.getElem?_append_right (Nat.le_refl _), Nat.sub_self] at h
      have h : o = o' := by simpa using h
      subst h
      rw [ext_at, el]
      exact ⟨ho, hp, r.mono gr_ext⟩
  · rw [el] at hi hj
    by_cases hI : i < st.length
    · by_cases hJ : j < st.length
      · rw [ext_lt hI, ext_lt hJ] at e
        exact L.inj i j hI hJ e
      · have : j = st.length := by omega
        subst this
        rw [ext_lt hI, ext_at] at e
        exact absurd e (hn i hI)
    · have : i = st.length := by omega
      subst this
      by_cases hJ : j < st.length
      · rw [ext_lt hJ, ext_at] at e
        exact absurd e.symm (hn j hJ)
      · omega
  · by_cases hl : n < st.length
    · rw [ext_lt hl]; exact x.new n h hl
    · have : n = st.length := by omega
      subst this
      rw [ext_at]; exact hf
/-- a new object, at once in the store -/
theorem Lk.alloc {p : Addr} {o : O} {ho : HO} (L : Lk K ca α st H) (hp : H p = none) (r : RO K ca α st.length H o ho) :
    Lk K ca (ext α st.length p) (st ++ [o]) (upd H p ho) ∧ Xt K α st.length H (ext α st.length p) (st ++ [o]).length (upd H p ho) :=
  (L.temp hp).adopt upd_same (fun n hn e => by
    obtain ⟨x, hx⟩ := L.there hn
    rw [e, hp] at hx; cases hx) (r.mono (xt_new hp).toGr) (xt_new hp) hp
/-- an object of the store is written -/
theorem Lk.write {n : Nat} {o o' : O} {ho ho' : HO} (L : Lk K ca α st H) (h : st[n]? = some o) (hx : H (α n) = some ho) (hm : ∀ xs, ho ≠ .tup xs) (nf : ∀ ob u, ho ≠ .frz ob u) (r : RO K ca α st.length H o' ho') :
    Lk K ca α (st.set n o') (upd H (α n) ho') ∧ Xt K α st.length H α (st.set n o').length (upd H (α n) ho') := by
  have hn := Lk.lt_of h
  have g : Gr K α st.length H α st.length (upd H (α n) ho') := ⟨Nat.le_refl _, fun _ _ => rfl, fun a vs z => sqT_upd (fun xs q => by rw [hx] at q; exact hm xs (Option.some.inj q)) (fun ob xs q => by rw [hx] at q; exact nf ob _ (Option.some.inj q)) z,
    fun a vs z => conL_upd (fun ob xs q => by rw [hx] at q; exact nf ob _ (Option.some.inj q)) z⟩
  rw [List.length_set]
  refine ⟨⟨fun m o2 h2 => ?_, fun i j hi hj e => L.inj i j (by simpa using hi) (by simpa using hj) e⟩, ⟨g, fun m h1 h2 => absurd h2 (Nat.not_lt.mpr h1), fun a o2 h2 hne => by rw [upd_ne (fun e => hne n hn e.symm)]; exact h2, fun m hm' h2 => ?_, fun a ob u z => by rw [upd_ne (fun e => by rw [e, hx] at z; exact nf ob u (Option.some.inj z))]; exact z⟩⟩
  · rw [List.length_set]
    by_cases e : m = n
    · subst e
      rw [List.getElem?_set_self hn] at h2
      cases h2
      exact ⟨ho', upd_same, r.mono g⟩
    · rw [List.getElem?_set_ne (Ne.symm e)] at h2
      obtain ⟨x, hx2, r2⟩ := L.at_ m o2 h2
      exact ⟨x, by rw [upd_ne (fun q => e (L.inj m n (Lk.lt_of h2) hn q))]; exact hx2, r2.mono g⟩
  · by_cases e : α m = α n
    · rw [e, upd_same]; exact fun z => by cases z
    · rw [upd_ne e]; exact h2
end

/-! ### a def's names -/
abbrev Env := List (Option D)
inductive RE (K : Frag) (α : Nat → Addr) (N : Nat) (H : Hp) : Env → L2.St → Prop
  | nil : RE K α N H [] []
  | skip {v : Option V} {ρ : Env} {σ : L2.St} : RE K α N H ρ σ → RE K α N H (none :: ρ) (v :: σ)
  | has {d : D} {v : V} {ρ : Env} {σ : L2.St} : RV K α N H d v → RE K α N H ρ σ → RE K α N H (some d :: ρ) (some v :: σ)
section
variable {K : Frag} {ca : Nat → Addr} {α α' α'' : Nat → Addr} {N N' N'' : Nat} {H H' H'' : Hp} {st st' : Sto}
theorem RE.mono (x : Gr K α N H α' N' H') : ∀ {ρ : Env} {σ : L2.St}, RE K α N H ρ σ → RE K α' N' H' ρ σ
  | _, _, .nil => .nil
  | _, _, .skip r => .skip (RE.mono x r)
  | _, _, .has h r => .has (h.mono x) (RE.mono x r)
theorem RE.get : ∀ {ρ : Env} {σ : L2.St} {i : Nat} {d : D}, RE K α N H ρ σ → ρ[i]? = some (some d) → ∃ v, σ[i]? = some (some v) ∧ RV K α N H d v
  | _, _, _, _, .nil, e => by simp at e
  | _, _, 0, _, .skip _, e => by simp at e
  | _, _, 0, _, .has h _, e => by simp at e; subst e; exact ⟨_, rfl, h⟩
  | _, _, i + 1, d, .skip r, e => by
    obtain ⟨y, h1, h2⟩ := RE.get (i := i) (d := d) r (by simpa using e)
    exact ⟨y, by simpa using h1, h2⟩
  | _, _, i + 1, d, .has _ r, e => by
    obtain ⟨y, h1, h2⟩ := RE.get (i := i) (d := d) r (by simpa using e)
    exact ⟨y, by simpa using h1, h2⟩
theorem RE.set {d : D} {v : V} (h : RV K α N H d v) : ∀ {ρ : Env} {σ : L2.St} (i : Nat), RE K α N H ρ σ → RE K α N H (ρ.set i (some d)) (σ.set i (some v))
  | _, _, _, .nil => .nil
  | _, _, 0, .skip r => .has h r
  | _, _, 0, .has _ r => .has h r
  | _, _, i + 1, .skip r => .skip (RE.set h i r)
  | _, _, i + 1, .has q r => .has q (RE.set h i r)
theorem RE.forget {v : Option V} : ∀ {ρ : Env} {σ : L2.St} (i : Nat), RE K α N H ρ σ → RE K α N H (ρ.set i none) (σ.set i v)
  | _, _, _, .nil => .nil
  | _, _, 0, .skip r => .skip r
  | _, _, 0, .has _ r => .skip r
  | _, _, i + 1, .skip r => .skip (RE.forget i r)
  | _, _, i + 1, .has q r => .has q (RE.forget i r)
theorem RE.nones : ∀ (k : Nat), RE K α N H (List.replicate k none) (List.replicate k none)
  | 0 => .nil
  | k + 1 => .skip (RE.nones k)
theorem RE.start {ds : List D} {vs : List V} (r : RVs K α N H ds vs) (k : Nat) : RE K α N H (ds.map some ++ List.replicate k none) (vs.map some ++ List.replicate k none) := by
  have go : ∀ {ds : List D} {vs : List V}, RVs K α N H ds vs → RE K α N H (ds.map some ++ List.replicate k none) (vs.map some ++ List.replicate k none)
  := by
    intro ds
    induction ds with
    | nil => intro vs r; cases r; exact RE.nones k
    | cons d ds ih => intro vs r; cases r with | cons h r => exact .has h (ih r)
  exact go r
end

/-! ### what is wanted of a result -/
/-- a result's value b and what lies in the heap for it; the first heap: that ahead -/
abbrev Rel (β γ : Type) := Hp → (Nat → Addr) → Nat → Hp → β → γ → Prop
def relV (K : Frag) : Rel D V := fun _ α N H d v => RV K α N H d v
def relVs (K : Frag) : Rel (List D) (List V) := fun _ α N H d v => RVs K α N H d v
def relB : Rel Bool Bool := fun _ _ _ _ b c => b = c
/-- a new list that no name holds -/
def relL (K : Frag) : Rel (List D) V := fun H0 α N H xs v => ∃ p vs, v = .ref p ∧ H0 p = none ∧ H p = some (.lst vs) ∧ RVs K α N H xs vs ∧ ∀ n, n < N → α n ≠ p
/-- the fields of an exception -/
def XD (K : Frag) (α : Nat → Addr) (N : Nat) (H : Hp) (fs : List (Str × D)) (dd : Option Addr) : Prop :=
  (fs = [] ∧ dd = none) ∨ ∃ d gs, dd = some d ∧ H d = some (.xd gs) ∧ RKs K α N H fs gs

def Post (K : Frag) (ca : Nat → Addr) {β γ : Type} (rel : Rel β γ) (α : Nat → Addr) (N : Nat) (H : Hp) (W : XK) (Q : γ → Hp → Prop) : R β → Prop
  | .ok b st' => ∀ α' H' g, Xt K α N H α' st'.length H' → Lk K ca α' st' H' → rel H α' st'.length H' b g → Q g H'
  | .exc c fs st' => ∀ α' H' dd, Xt K α N H α' st'.length H' → Lk K ca α' st' H' → XD K α' st'.length H' fs dd → W (.ref (ca c)) dd H'
  | .bad => False

/-- a result kind that may be told of an earlier heap too -/
def RelOk {β γ : Type} (rel : Rel β γ) (K : Frag) : Prop := ∀ (α : Nat → Addr) (N : Nat) (H : Hp) (α1 : Nat → Addr) (N1 : Nat) (H1 : Hp) (α2 : Nat → Addr) (N2 : Nat) (H2 : Hp) (b : β) (g : γ),
  Xt K α N H α1 N1 H1 → Xt K α1 N1 H1 α2 N2 H2 → rel H1 α2 N2 H2 b g → rel H α2 N2 H2 b g
theorem relV_ok {K : Frag} : RelOk (relV K) K := fun _ _ _ _ _ _ _ _ _ _ _ _ _ h => h
theorem relVs_ok {K : Frag} : RelOk (relVs K) K := fun _ _ _ _ _ _ _ _ _ _ _ _ _ h => h
theorem relB_ok {K : Frag} : RelOk relB K := fun _ _ _ _ _ _ _ _ _ _ _ _ _ h => h
theorem relL_ok {K : Frag} : RelOk (relL K) K := fun _ _ _ _ _ _ _ _ _ _ _ x _ ⟨p, vs, e, h1, h2⟩ => ⟨p, vs, e, x.fresh h1, h2⟩

section
variable {K : Frag} {ca : Nat → Addr} {α α' α'' : Nat → Addr} {N N' N'' : Nat} {H H' H'' : Hp} {st st' : Sto} {β γ β' γ' : Type} {rel : Rel β γ} {rel' : Rel β' γ'} {W W' : XK} {Q Q' : γ → Hp → Prop} {r : R β}
/-- the state ahead goes on -/
theorem Post.later (ok : RelOk rel K) (x : Xt K α N H α' N' H') (h : Post K ca rel α N H W Q r) : Post K ca rel α' N' H' W Q r := by
  cases r with
  | ok b st' => exact fun a2 H2 g x2 L2 r2 => h a2 H2 g (x.trans x2) L2 (ok _ _ _ _ _ _ _ _ _ _ _ x x2 r2)
  | exc c fs st' => exact fun a2 H2 dd x2 L2 r2 => h a2 H2 dd (x.trans x2) L2 r2
  | bad => exact h
theorem Post.imp (h : Post K ca rel α N H W Q r) (hQ : ∀ g H', Q g H' → Q' g H') : Post K ca rel α N H W Q' r := by
  cases r with
  | ok b st' => exact fun a2 H2 g x2 L2 r2 => hQ _ _ (h a2 H2 g x2 L2 r2)
  | exc c fs st' => exact h
  | bad => exact h
end

/-- the state: the store lies in the heap, the names' values are those -/
structure At (K : Frag) (ca : Nat → Addr) (α : Nat → Addr) (st : Sto) (H : Hp) (ρ : Env) (σ : L2.St) : Prop where
  lk : Lk K ca α st H
  re : RE K α st.length H ρ σ
theorem At.later {K : Frag} {ca : Nat → Addr} {α α' : Nat → Addr} {st st' : Sto} {H H' : Hp} {ρ : Env} {σ : L2.St} (a : At K ca α st H ρ σ) (x : Xt K α st.length H α' st'.length H') (L : Lk K ca α' st' H') : At K ca α' st' H' ρ σ := ⟨L, a.re.mono x.toGr⟩

/-- the reading of a piece of code whose mirror is e -/
def tG (K : Frag) (ca : Nat → Addr) {β γ : Type} (rel : Rel β γ) (W : WX) (e : Env → Sto → R β) : L2.St → Hp → (γ → Hp → Prop) → Prop := fun σ H Q =>
  ∃ α st ρ, At K ca α st H ρ σ ∧ Post K ca rel α st.length H (fun c d H' => W c d σ H') Q (e ρ st)

section
variable {K : Frag} {ca : Nat → Addr} {β γ β' γ' : Type} {rel : Rel β γ} {rel' : Rel β' γ'} {W : WX} {σ : L2.St} {H : Hp} {e : Env → Sto → R β} {f : Env → β → Sto → R β'} {Q : γ' → Hp → Prop}
/-- one after another -/
theorem tG_bind (ok' : RelOk rel' K) (h : tG K ca rel' W (fun ρ st => (e ρ st).bind (f ρ)) σ H Q) :
    tG K ca rel W e σ H fun g H1 => ∃ α st ρ α0 N0 H0 b, At K ca α st H1 ρ σ ∧ Xt K α0 N0 H0 α st.length H1 ∧ rel H0 α st.length H1 b g ∧ Post K ca rel' α0 N0 H0 (fun c d H' => W c d σ H') Q (f ρ b st) := by
  obtain ⟨α, st, ρ, a, p⟩ := h
  refine ⟨α, st, ρ, a, ?_⟩
  have p : Post K ca rel' α st.length H (fun c d H' => W c d σ H') Q ((e ρ st).bind (f ρ)) := p
  revert p
  cases e ρ st with
  | ok b st1 => exact fun p α1 H1 g x L r => ⟨α1, st1, ρ, α, st.length, H, b, a.later x L, x, r, p⟩
  | exc c fs st1 => exact fun p => p
  | bad => exact fun p => p
end
end PM

set_option Elab.async false
set_option linter.all false
set_option maxRecDepth 100000
set_option maxHeartbeats 4000000
/-! PM2: expressions. -/
namespace PM
open PySem PySem.Spec PyProof.Rows L2

abbrev E := Env → Sto → R D
abbrev EL := Env → Sto → R (List D)
abbrev ET := Env → Sto → R Bool
def QE (X : Cx) (ca : Nat → Addr) (W : WX) (x : Expr) (e : E) : Prop := PE X x (tG X.K ca (relV X.K) W e)
def QL (X : Cx) (ca : Nat → Addr) (W : WX) (x : Expr) (e : EL) : Prop := PE X x (tG X.K ca (relL X.K) W e)
def QA (X : Cx) (ca : Nat → Addr) (W : WX) (xs : List Expr) (e : EL) : Prop := PA X xs (tG X.K ca (relVs X.K) W e)
def QT (X : Cx) (ca : Nat → Addr) (W : WX) (x : Expr) (e : ET) : Prop := PT X x (tG X.K ca relB W e)
def QW (X : Cx) (ca : Nat → Addr) (W : WX) (x : Expr) (e : ET) : Prop := PW X x (tG X.K ca relB W e)

theorem peW {X : Cx} {x : Expr} {t t' : TE} (p : PE X x t) (h : ∀ σ H Q, t' σ H Q → t σ H Q) : PE X x t' := ⟨fun pins s σ H Q I q => p.run pins s σ H Q I (h σ H Q q)⟩
theorem ptW {X : Cx} {x : Expr} {t t' : TT} (p : PT X x t) (h : ∀ σ H Q, t' σ H Q → t σ H Q) : PT X x t' := ⟨fun pins s σ H Q I q => p.run pins s σ H Q I (h σ H Q q)⟩
theorem pwW {X : Cx} {x : Expr} {t t' : TT} (p : PW X x t) (h : ∀ σ H Q, t' σ H Q → t σ H Q) : PW X x t' := ⟨fun wh pins s σ H Q I q => p.run wh pins s σ H Q I (h σ H Q q)⟩
theorem paW {X : Cx} {x : List Expr} {t t' : TA} (p : PA X x t) (h : ∀ σ H Q, t' σ H Q → t σ H Q) : PA X x t' := ⟨fun pos pins s σ H Q I q => p.run pos pins s σ H Q I (h σ H Q q)⟩

section
variable {X : Cx} {ca : Nat → Addr} {W : WX} {a b c : Expr} {ea eb ec : E} {pos : Pos}

/-! ### names, constants -/
def cVar (i : Nat) : E := fun ρ st => match ρ[i]? with
  | some (some d) => .ok d st
  | _ => .bad
theorem qe_var (i : Nat) {x : Str} {pos : Pos} (hN : X.N[i]? = some x := by rfl) (hv : Vis X.env.scope x := by first | exact Or.inl rfl | exact Or.inr (Or.inl rfl) | exact Or.inr (Or.inr rfl)) (hd : (x == ("__debug__" : Str)) = false := by decide)
    (hcd : (x == ("__classdict__" : Str)) = false := by decide) : QE X ca W (.Name x pos) (cVar i) := by
  refine peW (pe_var hN hv hd hcd) fun σ H Q h => ?_
  obtain ⟨α, st, ρ, a, p⟩ := h
  unfold cVar at p
  split at p
  · rename_i d e
    obtain ⟨v, h1, h2⟩ := a.re.get e
    exact ⟨v, h1, p α H v .refl a.lk h2⟩
  · exact p.elim
def cC (d : D) : E := fun _ st => .ok d st
theorem qe_int {i j pos} : QE X ca W (.Constant (.int i) j pos) (cC (.int i)) := peW pe_int fun σ H Q ⟨α, st, ρ, a, p⟩ => p α H _ .refl a.lk (.int i)
theorem qe_bl {b j pos} : QE X ca W (.Constant (.bool b) j pos) (cC (.bl b)) := peW pe_bl fun σ H Q ⟨α, st, ρ, a, p⟩ => p α H _ .refl a.lk (.bl b)
theorem qe_non {j pos} : QE X ca W (.Constant .none j pos) (cC .non) := peW pe_non fun σ H Q ⟨α, st, ρ, a, p⟩ => p α H _ .refl a.lk .non
theorem qe_str {x j pos} : QE X ca W (.Constant (.str x) j pos) (cC (.str x)) := peW pe_str fun σ H Q ⟨α, st, ρ, a, p⟩ => p α H _ .refl a.lk (.str x)
/-- a name of the module: a constant that the top made -/
theorem qe_glob {x : Str} {d : D} {v : V} {u : Value} {pos : Pos} (hg : Gl X x) (hm : X.mg x = some u) (r : RelV v u) (hd : ∀ α N H, RV X.K α N H d v) (hdb : (x == ("__debug__" : Str)) = false := by decide) : QE X ca W (.Name x pos) (cC d) :=
  peW (pe_glob hg hm r hdb) fun σ H Q ⟨α, st, ρ, a, p⟩ => p α H _ .refl a.lk (hd _ _ _)

/-! ### operators -/
def cOp2 (f : D → D → Sto → R D) (a b : E) : E := fun ρ st => (a ρ st).bind fun x st => (b ρ st).bind fun y st => f x y st
def rD2 (K : Frag) (ca : Nat → Addr) (f : D → D → Sto → R D) : R2 := fun x y H Q => ∃ α st α0 N0 H0 dx dy W, Lk K ca α st H ∧ Xt K α0 N0 H0 α st.length H ∧ RV K α st.length H dx x ∧ RV K α st.length H dy y ∧ Post K ca (relV K) α0 N0 H0 W Q (f dx dy st)
theorem tG_op2 {K : Frag} {f : D → D → Sto → R D} {σ : L2.St} {H : Hp} {Q : VK} (h : tG K ca (relV K) W (cOp2 f ea eb) σ H Q) :
    tOp (rD2 K ca f) (tG K ca (relV K) W ea) (tG K ca (relV K) W eb) σ H Q := by
  obtain ⟨α, st, ρ, a, p⟩ := h
  refine ⟨α, st, ρ, a, ?_⟩
  unfold cOp2 at p
  revert p
  cases ea ρ st with
  | exc c fs st1 => exact fun p => p
  | bad => exact fun p => p
  | ok x st1 =>
    intro p α1 H1 v1 x1 L1 r1
    have a1 := a.later x1 L1
    refine ⟨α1, st1, ρ, a1, ?_⟩
    have p : Post K ca (relV K) α st.length H (fun c d H' => W c d σ H') Q ((eb ρ st1).bind fun y st => f x y st) := p
    revert p
    cases eb ρ st1 with
    | exc c fs st2 => exact fun p α2 H2 dd x2 L2 => p α2 H2 dd (x1.trans x2) L2
    | bad => exact fun p => p
    | ok y st2 =>
      intro p α2 H2 v2 x2 L2 r2
      exact ⟨α2, st2, α, st.length, H, x, y, _, L2, x1.trans x2, RV.mono x2.toGr r1, r2, p⟩
theorem qe_op2 {op : Operator} {f : D → D → Sto → R D} (ho : OpR X (binaryOp op) (rD2 X.K ca f)) (ha : QE X ca W a ea) (hb : QE X ca W b eb) : QE X ca W (.BinOp a op b pos) (cOp2 f ea eb) :=
  peW (pe_op ho ha hb) fun σ H Q h => tG_op2 h
theorem qe_cmp {op : CmpOp} {f : D → D → Sto → R D} (ho : OpR X (compareOp op) (rD2 X.K ca f)) (ha : QE X ca W a ea) (hb : QE X ca W b eb) (hm : behindInMarks op b = false) : QE X ca W (.Compare a [op] [b] pos) (cOp2 f ea eb) :=
  peW (pe_cmpR ho ha hb hm) fun σ H Q h => tG_op2 h
/-- an operator's answer as a test -/
def asB : R D → R Bool
  | .ok (.bl b) st => .ok b st
  | .exc c fs st => .exc c fs st
  | _ => .bad
def cTst (e : E) : ET := fun ρ st => asB (e ρ st)
theorem tG_tst {K : Frag} {e : E} {σ : L2.St} {H : Hp} {Q : Bool → Hp → Prop} (h : tG K ca relB W (cTst e) σ H Q) : tTest (tG K ca (relV K) W e) σ H Q := by
  obtain ⟨α, st, ρ, a, p⟩ := h
  refine ⟨α, st, ρ, a, ?_⟩
  unfold cTst at p
  revert p
  cases e ρ st with
  | exc c fs st1 => exact fun p => p
  | bad => exact fun p => p
  | ok d st1 =>
    cases d with
    | bl b =>
      intro p α1 H1 v1 x1 L1 r1
      cases r1
      exact ⟨b, rfl, p α1 H1 b x1 L1 rfl⟩
    | _ => exact fun p => False.elim p
theorem qt_cmp {op : CmpOp} {f : D → D → Sto → R D} (ho : OpR X (compareOp op) (rD2 X.K ca f)) (ha : QE X ca W a ea) (hb : QE X ca W b eb) (hm : behindInMarks op b = false) : QT X ca W (.Compare a [op] [b] pos) (cTst (cOp2 f ea eb)) :=
  ptW (pt_cmpR ho ha hb hm) fun σ H Q h => by
    have h2 := tG_tst h
    exact tG_op2 h2
/-- a op1 b op2 c -/
def cChain (f g : D → D → Sto → R D) (a b c : E) : E := fun ρ st => (a ρ st).bind fun x st => (b ρ st).bind fun y st => (asB (f x y st)).bind fun k st =>
  match k with
  | true => (c ρ st).bind fun z st => g y z st
  | false => .ok (.bl false) st
/-- an operator that leaves the store as it is and answers with a bool -/
def BoolOp (f : D → D → Sto → R D) : Prop := ∀ x y st, (∃ k, f x y st = .ok (.bl k) st) ∨ f x y st = .bad
theorem tG_chain {K : Frag} {f g : D → D → Sto → R D} {σ : L2.St} {H : Hp} {Q : VK} (hf : BoolOp f) (h : tG K ca (relV K) W (cChain f g ea eb ec) σ H Q) :
    tChain (rD2 K ca f) (rD2 K ca g) (tG K ca (relV K) W ea) (tG K ca (relV K) W eb) (tG K ca (relV K) W ec) σ H Q := by
  obtain ⟨α, st, ρ, a, p⟩ := h
  refine ⟨α, st, ρ, a, ?_⟩
  unfold cChain at p
  revert p
  cases ea ρ st with
  | exc c fs st1 => exact fun p => p
  | bad => exact fun p => p
  | ok x st1 =>
    intro p α1 H1 v1 x1 L1 r1
    have a1 := a.later x1 L1
    refine ⟨α1, st1, ρ, a1, ?_⟩
    simp only [R.bind_ok] at p
    revert p
    cases eb ρ st1 with
    | exc c fs st2 => exact fun p α2 H2 dd x2 L2 => p α2 H2 dd (x1.trans x2) L2
    | bad => exact fun p => p
    | ok y st2 =>
      intro p α2 H2 v2 x2 L2 r2
      simp only [R.bind_ok] at p
      refine ⟨α2, st2, α2, st2.length, H2, x, y, fun _ _ _ => False, L2, .refl, RV.mono x2.toGr r1, r2, ?_⟩
      rcases hf x y st2 with ⟨k, e⟩ | e
      · rw [e] at p ⊢
        have a2 := a1.later x2 L2
        intro α3 H3 v3 x3 L3 r3
        cases r3
        refine ⟨k, rfl, ?_⟩
        cases k with
        | false => exact p α3 H3 _ ((x1.trans x2).trans x3) L3 (.bl false)
        | true =>
          rw [if_pos rfl]
          refine ⟨α3, st2, ρ, a2.later x3 L3, ?_⟩
          have p : Post K ca (relV K) α st.length H (fun c d H' => W c d σ H') Q ((ec ρ st2).bind fun z st => g y z st) := p
          revert p
          cases ec ρ st2 with
          | exc c fs st4 => exact fun p α4 H4 dd x4 L4 => p α4 H4 dd (((x1.trans x2).trans x3).trans x4) L4
          | bad => exact fun p => p
          | ok z st4 =>
            intro p α4 H4 v4 x4 L4 r4
            exact ⟨α4, st4, α, st.length, H, y, z, _, L4, ((x1.trans x2).trans x3).trans x4, RV.mono (x3.trans x4).toGr r2, r4, p⟩
      · rw [e] at p
        exact p.elim
theorem qe_chain {op op' : CmpOp} {f g : D → D → Sto → R D} (ho : OpR X (compareOp op) (rD2 X.K ca f)) (ho' : OpR X (compareOp op') (rD2 X.K ca g)) (hf : BoolOp f) (ha : QE X ca W a ea) (hb : QE X ca W b eb) (hc : QE X ca W c ec)
    (hm : lastMarks [op, op'] [b, c] = false := by with_unfolding_all rfl) : QE X ca W (.Compare a [op, op'] [b, c] pos) (cChain f g ea eb ec) :=
  peW (pe_chain ho ho' ha hb hc hm) fun σ H Q h => tG_chain hf h
theorem qt_chain {op op' : CmpOp} {f g : D → D → Sto → R D} (ho : OpR X (compareOp op) (rD2 X.K ca f)) (ho' : OpR X (compareOp op') (rD2 X.K ca g)) (hf : BoolOp f) (ha : QE X ca W a ea) (hb : QE X ca W b eb) (hc : QE X ca W c ec)
    (hm : lastMarks [op, op'] [b, c] = false := by with_unfolding_all rfl) : QT X ca W (.Compare a [op, op'] [b, c] pos) (cTst (cChain f g ea eb ec)) :=
  ptW (pt_chain ho ho' ha hb hc hm) fun σ H Q h => tG_chain hf (tG_tst h)

/-! ### one operand -/
def cOp1 (f : D → Sto → R D) (a : E) : E := fun ρ st => (a ρ st).bind fun x st => f x st
def rD1 (K : Frag) (ca : Nat → Addr) (f : D → Sto → R D) : V → Hp → VK → Prop := fun x H Q => ∃ α st α0 N0 H0 dx W, Lk K ca α st H ∧ Xt K α0 N0 H0 α st.length H ∧ RV K α st.length H dx x ∧ Post K ca (relV K) α0 N0 H0 W Q (f dx st)
theorem tG_op1 {K : Frag} {f : D → Sto → R D} {σ : L2.St} {H : Hp} {Q : VK} (h : tG K ca (relV K) W (cOp1 f ea) σ H Q) :
    tG K ca (relV K) W ea σ H fun x H1 => rD1 K ca f x H1 Q := by
  obtain ⟨α, st, ρ, a, p⟩ := h
  refine ⟨α, st, ρ, a, ?_⟩
  unfold cOp1 at p
  revert p
  cases ea ρ st with
  | exc c fs st1 => exact fun p => p
  | bad => exact fun p => p
  | ok x st1 =>
    intro p α1 H1 v1 x1 L1 r1
    exact ⟨α1, st1, α, st.length, H, x, _, L1, x1, r1, p⟩
theorem qe_un {op : UnaryOp} {f : D → Sto → R D} (ho : UnR X (unaryOp op) (rD1 X.K ca f)) (ha : QE X ca W a ea) : QE X ca W (.UnaryOp op a pos) (cOp1 f ea) :=
  peW (pe_un ho ha) fun σ H Q h => tG_op1 h

/-! ### the arithmetic of ints, texts, tuples, lists -/
def addD : D → D → Sto → R D
  | .int i, .int j, st => .ok (.int (i + j)) st
  | .str i, .str j, st => if i.length + j.length ≤ sizeLine then .ok (.str (i ++ j)) st else .bad
  | .tup xs, .tup ys, st => if xs.length + ys.length ≤ sizeLine then .ok (.tup (xs ++ ys)) st else .bad
  | .loc m, .loc n, st => match st[m]?, st[n]? with
    | some (.lst xs), some (.lst ys) => if xs.length + ys.length ≤ sizeLine then .ok (.loc st.length) (st ++ [.lst (xs ++ ys)]) else .bad
    | _, _ => .bad
  | _, _, _ => .bad
theorem lk_lst {K : Frag} {α : Nat → Addr} {st : Sto} {H : Hp} {n : Nat} {xs : List D} (L : Lk K ca α st H) (h : st[n]? = some (.lst xs)) : ∃ vs, H (α n) = some (.lst vs) ∧ RVs K α st.length H xs vs := by
  obtain ⟨ho, h1, h2⟩ := L.at_ n _ h
  cases h2 with
  | lst r => exact ⟨_, h1, r⟩
/-- the value of a new tuple -/
theorem fin_tup {K : Frag} {α α0 : Nat → Addr} {st : Sto} {N0 : Nat} {H H0 : Hp} {W : XK} {Q : VK} {xs : List D} {vs : List V} {p : Addr} (q : Post K ca (relV K) α0 N0 H0 W Q (.ok (.tup xs) st)) (xt : Xt K α0 N0 H0 α st.length H) (L : Lk K ca α st H)
    (r : RVs K α st.length H xs vs) (hp : H p = none) : Q (.ref p) (upd H p (.tup vs)) :=
  q α _ _ (xt.trans (xt_new hp)) (L.temp hp) (.tup (.inl (.inl upd_same)) (r.mono (xt_new hp).toGr))
/-- the value of a new list, taken into the store -/
theorem fin_lst {K : Frag} {α α0 : Nat → Addr} {st : Sto} {N0 : Nat} {H H0 : Hp} {W : XK} {Q : VK} {xs : List D} {vs : List V} {p : Addr} (q : Post K ca (relV K) α0 N0 H0 W Q (.ok (.loc st.length) (st ++ [.lst xs]))) (xt : Xt K α0 N0 H0 α st.length H) (L : Lk K ca α st H)
    (r : RVs K α st.length H xs vs) (hp : H p = none) : Q (.ref p) (upd H p (.lst vs)) := by
  obtain ⟨L2, x2⟩ := L.alloc hp (.lst r)
  refine q _ _ _ (xt.trans x2) L2 ?_
  have e : V.ref p = V.ref (ext α st.length p st.length) := by rw [ext_at]
  rw [e]
  exact .loc (by simp)
theorem d_add : OpR X (binaryOp .Add) (rD2 X.K ca addD) := by
  intro pins s σ H x y v u Q I rx ry ⟨α, st, α0, N0, H0, dx, dy, W, L, xt, r1, r2, p⟩
  cases r1 <;> cases r2 <;> try exact False.elim p
  · exact op_add pins s σ H _ _ v u Q I rx ry ⟨_, _, rfl, rfl, p α H _ xt L (.int _)⟩
  · simp only [addD] at p
    split at p
    · rename_i h
      exact op_add_str pins s σ H _ _ v u Q I rx ry ⟨_, _, rfl, rfl, h, p α H _ xt L (.str _)⟩
    · exact p.elim
  · rename_i a1 vs xs h1 q1 a2 ws ys h2 q2
    simp only [addD] at p
    split at p
    · rename_i h
      rw [q1.length, q2.length] at h
      refine op_catA pins s σ H _ _ v u Q I rx ry ⟨_, _, _, _, rfl, rfl, h1, h2, h, fun e => ?_, fun _ e => ?_, fun _ _ p' hp => ?_⟩
      · have : xs = [] := List.length_eq_zero_iff.mp (by rw [q1.length, e]; rfl)
        subst this
        exact p α H _ xt L (.tup h2 q2)
      · have : ys = [] := List.length_eq_zero_iff.mp (by rw [q2.length, e]; rfl)
        subst this
        rw [List.append_nil] at p
        exact p α H _ xt L (.tup h1 q1)
      · exact fin_tup p xt L (q1.append q2) hp
    · exact p.elim
  · rename_i m hm n hn
    simp only [addD] at p
    split at p <;> try exact p.elim
    rename_i xs ys e1 e2
    split at p
    · rename_i h
      obtain ⟨vs, h1, q1⟩ := lk_lst L e1
      obtain ⟨ws, h2, q2⟩ := lk_lst L e2
      rw [q1.length, q2.length] at h
      exact op_cat pins s σ H _ _ v u Q I rx ry ⟨_, _, _, _, rfl, rfl, h1, h2, h, fun p' hp => fin_lst p xt L (q1.append q2) hp⟩
    · exact p.elim
/-- ints alone -/
def int2 (C : Int → Int → Bool) (g : Int → Int → Int) : D → D → Sto → R D
  | .int i, .int j, st => if C i j = true then .ok (.int (g i j)) st else .bad
  | _, _, _ => .bad
theorem d_int2 {op : Operator} {C : Int → Int → Bool} {Cp : Int → Int → Prop} {g : Int → Int → Int} (h : OpR X (binaryOp op) (rI Cp fun i j => .int (g i j))) (hc : ∀ i j, C i j = true → Cp i j) : OpR X (binaryOp op) (rD2 X.K ca (int2 C g)) := by
  intro pins s σ H x y v u Q I rx ry ⟨α, st, α0, N0, H0, dx, dy, W, L, xt, r1, r2, p⟩
  cases r1 <;> cases r2 <;> try exact False.elim p
  simp only [int2] at p
  split at p
  · rename_i q
    exact h pins s σ H _ _ v u Q I rx ry ⟨_, _, rfl, rfl, hc _ _ q, p α H _ xt L (.int _)⟩
  · exact p.elim
theorem d_int20 {op : Operator} {g : Int → Int → Int} (h : OpR X (binaryOp op) (rI0 fun i j => .int (g i j))) : OpR X (binaryOp op) (rD2 X.K ca (int2 (fun _ _ => true) g)) :=
  d_int2 (Cp := fun _ _ => True) (fun pins s σ H x y v u Q I rx ry ⟨i, j, e1, e2, _, q⟩ => h pins s σ H x y v u Q I rx ry ⟨i, j, e1, e2, q⟩) fun _ _ _ => trivial
def subD : D → D → Sto → R D := int2 (fun _ _ => true) fun i j => i - j
def mulC (i j : Int) : Bool := decide (i.natAbs.log2 + j.natAbs.log2 < 1000000) || (decide (-(2 ^ 64) < i ∧ i < 2 ^ 64) || decide (-(2 ^ 64) < j ∧ j < 2 ^ 64))
def fdivC (_ j : Int) : Bool := decide (j ≠ 0) && decide (j.natAbs.log2 < 9000)
def modC (_ j : Int) : Bool := decide (j ≠ 0)
def shC (i j : Int) : Bool := decide (0 ≤ j ∧ j ≤ 1000000 ∧ i.natAbs < 2 ^ 64)
theorem d_sub : OpR X (binaryOp .Sub) (rD2 X.K ca subD) := d_int20 op_sub
theorem op_mulA : OpR X (binaryOp .Mult) (rI (fun i j => CMulW i j ∨ CMul i j) fun i j => .int (i * j)) := by
  intro pins s σ H x y v u Q I rx ry ⟨i, j, e1, e2, hc, q⟩
  rcases hc with hc | hc
  · exact op_mulW pins s σ H x y v u Q I rx ry ⟨i, j, e1, e2, hc, q⟩
  · exact op_mul pins s σ H x y v u Q I rx ry ⟨i, j, e1, e2, hc, q⟩
theorem op_fdivA : OpR X (binaryOp .FloorDiv) (rI (fun _ j => j ≠ 0 ∧ j.natAbs.log2 < 9000) fun i j => .int (i.fdiv j)) := opI fun _ _ _ _ _ _ _ hc q => floordiv_int hc.1 q (.inl (PyProof.noPylong_of_log2 hc.2))
def mulD : D → D → Sto → R D := int2 mulC fun i j => i * j
def fdivD : D → D → Sto → R D := int2 fdivC fun i j => i.fdiv j
def modD : D → D → Sto → R D := int2 modC fun i j => i.fmod j
def powD : D → D → Sto → R D := int2 shC fun i j => i ^ j.toNat
def shlD : D → D → Sto → R D := int2 shC fun i j => i * 2 ^ j.toNat
def shrD : D → D → Sto → R D := int2 (fun _ j => decide (0 ≤ j)) fun i j => i / 2 ^ j.toNat
def andD : D → D → Sto → R D := int2 (fun _ _ => true) Builtin.bitAnd
def orD : D → D → Sto → R D := int2 (fun _ _ => true) Builtin.bitOr
def xorD : D → D → Sto → R D := int2 (fun _ _ => true) Builtin.bitXor
theorem d_mul : OpR X (binaryOp .Mult) (rD2 X.K ca mulD) := d_int2 op_mulA fun i j h => by
  unfold mulC at h
  rcases Bool.or_eq_true _ _ |>.mp h with h | h
  · have h' := of_decide_eq_true h
    exact .inl h'
  · rcases Bool.or_eq_true _ _ |>.mp h with h | h
    · exact .inr (.inl (of_decide_eq_true h))
    · exact .inr (.inr (of_decide_eq_true h))
theorem d_fdiv : OpR X (binaryOp .FloorDiv) (rD2 X.K ca fdivD) := d_int2 op_fdivA fun i j h => by
  have := Bool.and_eq_true _ _ |>.mp h
  exact ⟨of_decide_eq_true this.1, of_decide_eq_true this.2⟩
theorem d_mod : OpR X (binaryOp .Mod) (rD2 X.K ca modD) := d_int2 op_modN fun i j h => of_decide_eq_true h
theorem d_pow : OpR X (binaryOp .Pow) (rD2 X.K ca powD) := d_int2 op_pow fun i j h => by have h' := of_decide_eq_true h; exact h'
theorem d_shl : OpR X (binaryOp .LShift) (rD2 X.K ca shlD) := d_int2 op_shl fun i j h => by have h' := of_decide_eq_true h; exact h'
theorem d_shr : OpR X (binaryOp .RShift) (rD2 X.K ca shrD) := d_int2 op_shr fun i j h => of_decide_eq_true h
theorem d_and : OpR X (binaryOp .BitAnd) (rD2 X.K ca andD) := d_int20 op_and
theorem d_or : OpR X (binaryOp .BitOr) (rD2 X.K ca orD) := d_int20 op_or
theorem d_xor : OpR X (binaryOp .BitXor) (rD2 X.K ca xorD) := d_int20 op_xor
def negD : D → Sto → R D
  | .int i, st => .ok (.int (-i)) st
  | _, _ => .bad
theorem d_neg : UnR X (unaryOp .USub) (rD1 X.K ca negD) := by
  intro pins s σ H x v Q I rx ⟨α, st, α0, N0, H0, dx, W, L, xt, r1, p⟩
  cases r1 <;> try exact False.elim p
  exact un_neg pins s σ H _ v Q I rx ⟨_, rfl, p α H _ xt L (.int _)⟩

/-! ### comparisons -/
def cmpI (g : Int → Int → Bool) : D → D → Sto → R D
  | .int i, .int j, st => .ok (.bl (g i j)) st
  | _, _, _ => .bad
theorem cmpI_bool (g : Int → Int → Bool) : BoolOp (cmpI g) := by
  intro x y st
  cases x <;> cases y <;> first | exact .inl ⟨_, rfl⟩ | exact .inr rfl
theorem d_cmpI {op : CmpOp} {g : Int → Int → Bool} (h : OpR X (compareOp op) (rI0 fun i j => .bl (g i j))) : OpR X (compareOp op) (rD2 X.K ca (cmpI g)) := by
  intro pins s σ H x y v u Q I rx ry ⟨α, st, α0, N0, H0, dx, dy, W, L, xt, r1, r2, p⟩
  cases r1 <;> cases r2 <;> try exact False.elim p
  exact h pins s σ H _ _ v u Q I rx ry ⟨_, _, rfl, rfl, p α H _ xt L (.bl _)⟩
def ltD := cmpI fun i j => decide (i < j)
def leD := cmpI fun i j => decide (i ≤ j)
def gtD := cmpI fun i j => decide (j < i)
def geD := cmpI fun i j => decide (j ≤ i)
theorem d_lt : OpR X (compareOp .Lt) (rD2 X.K ca ltD) := d_cmpI op_lt
theorem d_le : OpR X (compareOp .LtE) (rD2 X.K ca leD) := d_cmpI op_le
theorem d_gt : OpR X (compareOp .Gt) (rD2 X.K ca gtD) := d_cmpI op_gt
theorem d_ge : OpR X (compareOp .GtE) (rD2 X.K ca geD) := d_cmpI op_ge
def isND : D → D → Sto → R D
  | x, .non, st => .ok (.bl (match x with | .non => true | _ => false)) st
  | _, _, _ => .bad
def notND : D → D → Sto → R D
  | x, .non, st => .ok (.bl (match x with | .non => false | _ => true)) st
  | _, _, _ => .bad
theorem d_isN : OpR X (compareOp .Is) (rD2 X.K ca isND) := by
  intro pins s σ H x y v u Q I rx ry ⟨α, st, α0, N0, H0, dx, dy, W, L, xt, r1, r2, p⟩
  cases r2 <;> try exact False.elim p
  refine op_isN pins s σ H _ _ v u Q I rx ry ⟨rfl, ?_⟩
  cases r1 <;> exact p α H _ xt L (.bl _)
theorem d_notN : OpR X (compareOp .IsNot) (rD2 X.K ca notND) := by
  intro pins s σ H x y v u Q I rx ry ⟨α, st, α0, N0, H0, dx, dy, W, L, xt, r1, r2, p⟩
  cases r2 <;> try exact False.elim p
  refine op_notN pins s σ H _ _ v u Q I rx ry ⟨rfl, ?_⟩
  cases r1 <;> exact p α H _ xt L (.bl _)

/-! ### == of data -/
mutual
/-- a value as data -/
def pd : D → Option PyData
  | .non => some .none
  | .bl b => some (.bool b)
  | .int i => some (.int i)
  | .str x => some (.str x)
  | .tup xs => (pdAll xs).map .tuple
  | .con xs => (pdAll xs).map .list
  | .loc _ => none
def pdAll : List D → Option (List PyData)
  | [] => some []
  | x :: xs => (pd x).bind fun a => (pdAll xs).map fun r => a :: r
end
mutual
theorem pd_ok {K : Frag} {α : Nat → Addr} {N : Nat} {H : Hp} : ∀ {d : D} {v : V} {a : PyData}, RV K α N H d v → pd d = some a → Dp K H v a
  | _, _, _, .non, e => by simp only [pd, Option.some.injEq] at e; subst e; exact .non
  | _, _, _, .bl b, e => by simp only [pd, Option.some.injEq] at e; subst e; exact .bl b
  | _, _, _, .int i, e => by simp only [pd, Option.some.injEq] at e; subst e; exact .int i
  | _, _, _, .str x, e => by simp only [pd, Option.some.injEq] at e; subst e; exact .str x
  | _, _, _, .tup h r, e => by
    simp only [pd] at e
    obtain ⟨ds, h1, h2⟩ := Option.map_eq_some_iff.mp e
    subst h2
    exact .tup h (pdAll_ok r h1)
  | _, _, _, .con h r, e => by
    simp only [pd] at e
    obtain ⟨ds, h1, h2⟩ := Option.map_eq_some_iff.mp e
    subst h2
    exact .lst h.sq (pdAll_ok r h1)
  | _, _, _, .loc _, e => by simp [pd] at e
theorem pdAll_ok {K : Frag} {α : Nat → Addr} {N : Nat} {H : Hp} : ∀ {d : List D} {v : List V} {a : List PyData}, RVs K α N H d v → pdAll d = some a → DpAll K H v a
  | _, _, _, .nil, e => by simp only [pdAll, Option.some.injEq] at e; subst e; exact .nil
  | _, _, _, .cons h r, e => by
    simp only [pdAll] at e
    obtain ⟨x, h1, h2⟩ := Option.bind_eq_some_iff.mp e
    obtain ⟨y, h3, h4⟩ := Option.map_eq_some_iff.mp h2
    subst h4
    exact .cons (pd_ok h h1) (pdAll_ok r h3)
end
/-- .. a list of the store too -/
def pdS (st : Sto) : D → Option PyData
  | .loc n => match st[n]? with
    | some (.lst xs) => (pdAll xs).map .list
    | _ => none
  | d => pd d
theorem pdS_ok {K : Frag} {α : Nat → Addr} {st : Sto} {H : Hp} {d : D} {v : V} {a : PyData} (L : Lk K ca α st H) (r : RV K α st.length H d v) (e : pdS st d = some a) : Dp K H v a := by
  cases r with
  | loc h =>
    rename_i n
    unfold pdS at e
    dsimp only at e
    split at e
    · rename_i xs q
      obtain ⟨vs, h1, h2⟩ := lk_lst L q
      obtain ⟨ds, h3, h4⟩ := Option.map_eq_some_iff.mp e
      subst h4
      exact .lst (.inl (.inl h1)) (pdAll_ok h2 h3)
    · cases e
  | _ => exact pd_ok (α := α) (N := st.length) (by constructor <;> assumption) e
def scalD : D → D → Bool
  | .int _, .int _ => true | .bl _, .bl _ => true | .str _, .str _ => true | .non, .non => true
  | .int _, .non => true | .non, .int _ => true | .str _, .non => true | .non, .str _ => true | .bl _, .non => true | .non, .bl _ => true
  | .int _, .str _ => true | .str _, .int _ => true | .bl _, .str _ => true | .str _, .bl _ => true
  | _, _ => false
def eqS : D → D → Bool
  | .int i, .int j => decide (i = j) | .bl i, .bl j => decide (i = j) | .str i, .str j => decide (i = j) | .non, .non => true
  | _, _ => false
/-- whether two values are equal, where that is told -/
def eqO (x y : D) (st : Sto) : Option Bool :=
  if scalD x y = true then some (eqS x y) else
  match pdS st x, pdS st y with
  | some a, some b => if SeqAt.shaped a = true ∧ SeqAt.shaped b = true then some (PyData.eqv a b) else none
  | _, _ => none
def eqD : D → D → Sto → R D := fun x y st => match eqO x y st with
  | some b => .ok (.bl b) st
  | none => .bad
def neD : D → D → Sto → R D := fun x y st => match eqO x y st with
  | some b => .ok (.bl (!b)) st
  | none => .bad
theorem scalD_eq {K : Frag} {α : Nat → Addr} {N : Nat} {H : Hp} {dx dy : D} {x y : V} (r1 : RV K α N H dx x) (r2 : RV K α N H dy y) (h : scalD dx dy = true) : scal x y = true ∧ decide (x = y) = eqS dx dy := by
  cases r1 <;> cases r2 <;> first
    | exact absurd h Bool.false_ne_true
    | exact ⟨rfl, by simp [eqS]⟩
theorem d_eqne {op : CmpOp} {f : D → D → Sto → R D} {g : Bool → Bool} (hf : ∀ x y st, f x y st = match eqO x y st with | some b => .ok (.bl (g b)) st | none => .bad)
    (h1 : OpR X (compareOp op) fun x y H Q => scal x y = true ∧ Q (.bl (g (decide (x = y)))) H)
    (h2 : OpR X (compareOp op) fun x y H Q => ∃ d e, Dp X.K H x d ∧ Dp X.K H y e ∧ SeqAt.shaped d = true ∧ SeqAt.shaped e = true ∧ Q (.bl (g (PyData.eqv d e))) H) : OpR X (compareOp op) (rD2 X.K ca f) := by
  intro pins s σ H x y v u Q I rx ry ⟨α, st, α0, N0, H0, dx, dy, W, L, xt, r1, r2, p⟩
  rw [hf] at p
  unfold eqO at p
  by_cases hs : scalD dx dy = true
  · rw [if_pos hs] at p
    obtain ⟨e1, e2⟩ := scalD_eq r1 r2 hs
    exact h1 pins s σ H _ _ v u Q I rx ry ⟨e1, by rw [e2]; exact p α H _ xt L (.bl _)⟩
  · rw [if_neg hs] at p
    cases q1 : pdS st dx with
    | none => rw [q1] at p; exact p.elim
    | some da =>
      cases q2 : pdS st dy with
      | none => rw [q1, q2] at p; exact p.elim
      | some db =>
        rw [q1, q2] at p
        dsimp only at p
        by_cases hz : SeqAt.shaped da = true ∧ SeqAt.shaped db = true
        · rw [if_pos hz] at p
          exact h2 pins s σ H _ _ v u Q I rx ry ⟨da, db, pdS_ok L r1 q1, pdS_ok L r2 q2, hz.1, hz.2, p α H _ xt L (.bl _)⟩
        · rw [if_neg hz] at p
          exact p.elim
theorem d_eq (hu : X.A.units + 64 < cLine) : OpR X (compareOp .Eq) (rD2 X.K ca eqD) := d_eqne (g := fun b => b) (fun _ _ _ => rfl) op_eq (op_eqD hu)
theorem d_ne (hu : X.A.units + 64 < cLine) : OpR X (compareOp .NotEq) (rD2 X.K ca neD) := d_eqne (g := fun b => !b) (fun _ _ _ => rfl) op_ne (op_neD hu)
end
end PM

set_option Elab.async false
set_option linter.all false
set_option maxRecDepth 100000
set_option maxHeartbeats 4000000
/-! PM3: tests, displays, subscripts, built-ins. -/
namespace PM
open PySem PySem.Spec PyProof.Rows L2
section
variable {X : Cx} {ca : Nat → Addr} {W : WX} {a b c : Expr} {ea eb ec : E} {pos : Pos} {es : List Expr} {rest : List Expr}

/-! ### one after another, two result kinds -/
theorem tG_seq {K : Frag} {β γ β' γ' : Type} {rel : Rel β γ} {rel' : Rel β' γ'} {e : Env → Sto → R β} {f : Env → β → Sto → R β'} {σ : L2.St} {H : Hp} {Q : γ' → Hp → Prop} {T : γ → Hp → Prop}
    (h : tG K ca rel' W (fun ρ st => (e ρ st).bind (f ρ)) σ H Q)
    (go : ∀ α st ρ α0 N0 H0 b g H1, At K ca α st H1 ρ σ → Xt K α0 N0 H0 α st.length H1 → rel H0 α st.length H1 b g → Post K ca rel' α0 N0 H0 (fun c d H' => W c d σ H') Q (f ρ b st) → T g H1) :
    tG K ca rel W e σ H T := by
  obtain ⟨α, st, ρ, a, p⟩ := h
  refine ⟨α, st, ρ, a, ?_⟩
  have p : Post K ca rel' α st.length H (fun c d H' => W c d σ H') Q ((e ρ st).bind (f ρ)) := p
  revert p
  cases e ρ st with
  | ok b st1 => exact fun p α1 H1 g x L r => go α1 st1 ρ α st.length H b g H1 (a.later x L) x r p
  | exc c fs st1 => exact fun p => p
  | bad => exact fun p => p

theorem tG_next {K : Frag} {β γ β' γ' : Type} {rel : Rel β γ} {rel' : Rel β' γ'} {e : Env → Sto → R β} {f : β → Sto → R β'} {σ : L2.St} {H0 H1 : Hp} {Q : γ' → Hp → Prop} {T : γ → Hp → Prop} {α α0 : Nat → Addr} {st : Sto} {N0 : Nat} {ρ : Env}
    (a : At K ca α st H1 ρ σ) (x : Xt K α0 N0 H0 α st.length H1) (p : Post K ca rel' α0 N0 H0 (fun c d H' => W c d σ H') Q ((e ρ st).bind f))
    (go : ∀ α2 st2 b g H2, At K ca α2 st2 H2 ρ σ → Xt K α st.length H1 α2 st2.length H2 → Xt K α0 N0 H0 α2 st2.length H2 → rel H1 α2 st2.length H2 b g → Post K ca rel' α0 N0 H0 (fun c d H' => W c d σ H') Q (f b st2) → T g H2) :
    tG K ca rel W e σ H1 T := by
  refine ⟨α, st, ρ, a, ?_⟩
  revert p
  cases e ρ st with
  | ok b st1 => exact fun p α1 H2 g x2 L r => go α1 st1 b g H2 (a.later x2 L) x2 (x.trans x2) r p
  | exc c fs st1 => exact fun p α1 H2 dd x2 L r => p α1 H2 dd (x.trans x2) L r
  | bad => exact fun p => p

/-! ### and, or, not -/
def cAnd (a b : E) : E := fun ρ st => (a ρ st).bind fun x st => match x with
  | .bl true => b ρ st
  | .bl false => .ok (.bl false) st
  | _ => .bad
def cOr (a b : E) : E := fun ρ st => (a ρ st).bind fun x st => match x with
  | .bl false => b ρ st
  | .bl true => .ok (.bl true) st
  | _ => .bad
def cNot (a : E) : E := fun ρ st => (a ρ st).bind fun x st => match x with
  | .bl k => .ok (.bl (!k)) st
  | _ => .bad
theorem qe_one {op} (h : QE X ca W a ea) : QE X ca W (.BoolOp op [a] pos) ea := pe_one h
theorem qe_and (ha : QE X ca W a ea) (hb : QE X ca W (.BoolOp .And (b :: rest) pos) eb) : QE X ca W (.BoolOp .And (a :: b :: rest) pos) (cAnd ea eb) :=
  peW (pe_and ha hb) fun σ H Q h => tG_seq h fun α st ρ α0 N0 H0 d v H1 at1 x r p => by
    cases r <;> try exact False.elim p
    rename_i k
    refine ⟨k, rfl, ?_⟩
    cases k with
    | true => rw [if_pos rfl]; exact ⟨α, st, ρ, at1, Post.later relV_ok x p⟩
    | false => exact p α H1 _ x at1.lk (.bl false)
theorem qe_or (ha : QE X ca W a ea) (hb : QE X ca W (.BoolOp .Or (b :: rest) pos) eb) : QE X ca W (.BoolOp .Or (a :: b :: rest) pos) (cOr ea eb) :=
  peW (pe_or ha hb) fun σ H Q h => tG_seq h fun α st ρ α0 N0 H0 d v H1 at1 x r p => by
    cases r <;> try exact False.elim p
    rename_i k
    refine ⟨k, rfl, ?_⟩
    cases k with
    | false => rw [if_neg Bool.false_ne_true]; exact ⟨α, st, ρ, at1, Post.later relV_ok x p⟩
    | true => exact p α H1 _ x at1.lk (.bl true)
theorem qe_not (ha : QE X ca W a ea) : QE X ca W (.UnaryOp .Not a pos) (cNot ea) :=
  peW (pe_not ha) fun σ H Q h => tG_seq h fun α st ρ α0 N0 H0 d v H1 at1 x r p => by
    cases r <;> try exact False.elim p
    exact ⟨_, rfl, p α H1 _ x at1.lk (.bl _)⟩
variable {ta tb tc : ET}
def tAndD (a b : ET) : ET := fun ρ st => (a ρ st).bind fun k st => match k with
  | true => b ρ st
  | false => .ok false st
def tOrD (a b : ET) : ET := fun ρ st => (a ρ st).bind fun k st => match k with
  | true => .ok true st
  | false => b ρ st
def tNotD (a : ET) : ET := fun ρ st => (a ρ st).bind fun k st => .ok (!k) st
theorem qt_w (h : QW X ca W a ta) : QT X ca W a ta := h.pt
theorem qw_and1 (h : QT X ca W a ta) : QW X ca W (.BoolOp .And [a] pos) ta := pw_and1 h
theorem qw_or1 (h : QT X ca W a ta) : QW X ca W (.BoolOp .Or [a] pos) ta := pw_or1 h
theorem qw_and (ha : QT X ca W a ta) (hb : QW X ca W (.BoolOp .And (b :: rest) pos) tb) : QW X ca W (.BoolOp .And (a :: b :: rest) pos) (tAndD ta tb) :=
  pwW (pw_and ha hb) fun σ H Q h => tG_seq h fun α st ρ α0 N0 H0 k k' H1 at1 x r p => by
    cases r
    cases k with
    | true => rw [if_pos rfl]; exact ⟨α, st, ρ, at1, Post.later relB_ok x p⟩
    | false => rw [if_neg Bool.false_ne_true]; exact p α H1 _ x at1.lk rfl
theorem qw_or (ha : QT X ca W a ta) (hb : QW X ca W (.BoolOp .Or (b :: rest) pos) tb) : QW X ca W (.BoolOp .Or (a :: b :: rest) pos) (tOrD ta tb) :=
  pwW (pw_or ha hb) fun σ H Q h => tG_seq h fun α st ρ α0 N0 H0 k k' H1 at1 x r p => by
    cases r
    cases k with
    | false => rw [if_neg Bool.false_ne_true]; exact ⟨α, st, ρ, at1, Post.later relB_ok x p⟩
    | true => rw [if_pos rfl]; exact p α H1 _ x at1.lk rfl
theorem qt_not (ha : QT X ca W a ta) : QT X ca W (.UnaryOp .Not a pos) (tNotD ta) :=
  ptW (pt_not ha) fun σ H Q h => tG_seq h fun α st ρ α0 N0 H0 k k' H1 at1 x r p => by
    cases r
    exact p α H1 _ x at1.lk rfl
/-- a value's truth -/
def truD : D → Sto → R Bool
  | .non, st => .ok false st
  | .bl b, st => .ok b st
  | .int i, st => .ok (i != 0) st
  | .str y, st => if y.length ≤ sizeLine then .ok ((y.length : Int) != 0) st else .bad
  | .tup xs, st => .ok (!xs.isEmpty) st
  | .con xs, st => .ok (!xs.isEmpty) st
  | .loc n, st => match st[n]? with
    | some (.lst xs) => .ok (!xs.isEmpty) st
    | some (.dct xs) => .ok (!xs.isEmpty) st
    | _ => .bad
theorem RVs.isEmpty {K : Frag} {α : Nat → Addr} {N : Nat} {H : Hp} {d : List D} {v : List V} (r : RVs K α N H d v) : d.isEmpty = v.isEmpty := by cases r <;> rfl
theorem RKs.length {K : Frag} {α : Nat → Addr} {N : Nat} {H : Hp} {κ : Type} : ∀ {d : List (κ × D)} {v : List (κ × V)}, RKs K α N H d v → d.length = v.length
  | _, _, .nil => rfl
  | _, _, .cons _ r => congrArg (· + 1) r.length
theorem RKs.isEmpty {K : Frag} {α : Nat → Addr} {N : Nat} {H : Hp} {κ : Type} {d : List (κ × D)} {v : List (κ × V)} (r : RKs K α N H d v) : d.isEmpty = v.isEmpty := by cases r <;> rfl
def cTru (e : E) : ET := fun ρ st => (e ρ st).bind fun x st => truD x st
theorem qt_truth (ha : QE X ca W a ea) (he : ∀ whole, isTrue a X.env whole = (do let v ← whole; standAt a.pos; holding [v] (truthy v)) := by intro _; rfl) : QT X ca W a (cTru ea) :=
  ptW (pt_truth ha he) fun σ H Q h => tG_seq h fun α st ρ α0 N0 H0 d v H1 at1 x r p => by
    cases r with
    | non => exact ⟨false, rfl, p α H1 _ x at1.lk rfl⟩
    | bl b => exact ⟨b, rfl, p α H1 _ x at1.lk rfl⟩
    | int i => exact ⟨_, rfl, p α H1 _ x at1.lk rfl⟩
    | str y =>
      simp only [truD] at p
      split at p
      · rename_i hy
        exact ⟨_, ⟨hy, rfl⟩, p α H1 _ x at1.lk rfl⟩
      · exact p.elim
    | tup h r => exact ⟨_, .inr (.inl ⟨_, h, rfl⟩), p α H1 _ x at1.lk (congrArg (!·) r.isEmpty)⟩
    | con h r => exact ⟨_, .inl ⟨_, h.sq, rfl⟩, p α H1 _ x at1.lk (congrArg (!·) r.isEmpty)⟩
    | loc hn =>
      simp only [truD] at p
      split at p
      · rename_i xs e
        obtain ⟨vs, h1, q1⟩ := lk_lst at1.lk e
        exact ⟨_, .inl ⟨_, .inl (.inl h1), rfl⟩, p α H1 _ x at1.lk (congrArg (!·) q1.isEmpty)⟩
      · rename_i xs e
        obtain ⟨ho, h1, q1⟩ := at1.lk.at_ _ _ e
        cases q1 with
        | dct q1 => exact ⟨_, .inr (.inr ⟨_, h1, rfl⟩), p α H1 _ x at1.lk (congrArg (!·) q1.isEmpty)⟩
      · exact p.elim
/-- a if t else b -/
def cIf (t : ET) (a b : E) : E := fun ρ st => (t ρ st).bind fun k st => match k with
  | true => a ρ st
  | false => b ρ st
theorem qe_if (ht : QT X ca W c tc) (ha : QE X ca W a ea) (hb : QE X ca W b eb) : QE X ca W (.IfExp c a b pos) (cIf tc ea eb) :=
  peW (pe_ifExp ht ha hb) fun σ H Q h => tG_seq h fun α st ρ α0 N0 H0 k k' H1 at1 x r p => by
    cases r
    cases k with
    | true => rw [if_pos rfl]; exact ⟨α, st, ρ, at1, Post.later relV_ok x p⟩
    | false => rw [if_neg Bool.false_ne_true]; exact ⟨α, st, ρ, at1, Post.later relV_ok x p⟩

/-! ### argument lists, displays -/
def cArgs : List E → EL
  | [] => fun _ st => .ok [] st
  | e :: r => fun ρ st => (e ρ st).bind fun x st => (cArgs r ρ st).bind fun xs st => .ok (x :: xs) st
theorem cArgs_length : ∀ {es : List E} {ρ : Env} {st st' : Sto} {xs : List D}, cArgs es ρ st = .ok xs st' → xs.length = es.length
  | [], ρ, st, st', xs, h => by simp only [cArgs, R.ok.injEq] at h; rw [← h.1]; rfl
  | e :: r, ρ, st, st', xs, h => by
    simp only [cArgs] at h
    cases q : e ρ st with
    | ok x st1 =>
      rw [q, R.bind_ok] at h
      cases q2 : cArgs r ρ st1 with
      | ok ys st2 =>
        rw [q2, R.bind_ok] at h
        simp only [R.ok.injEq] at h
        rw [← h.1, List.length_cons, List.length_cons, cArgs_length q2]
      | exc _ _ _ => rw [q2] at h; cases h
      | bad => rw [q2] at h; cases h
    | exc _ _ _ => rw [q] at h; cases h
    | bad => rw [q] at h; cases h
theorem qa_nil : QA X ca W [] (cArgs []) := paW pa_nil fun σ H Q ⟨α, st, ρ, a, p⟩ => p α H [] .refl a.lk .nil
theorem qa_cons {e : Expr} {ee : E} {ees : List E} (h1 : QE X ca W e ee) (h2 : QA X ca W es (cArgs ees)) (hs : starEach (e :: es) X.env = (false, eval e X.env) :: starEach es X.env := by rfl) : QA X ca W (e :: es) (cArgs (ee :: ees)) :=
  paW (pa_cons h1 h2 hs) fun σ H Q ⟨α, st, ρ, a, p⟩ => tG_next a .refl p fun α1 st1 d v H1 a1 _ x1 r1 p1 =>
    tG_next a1 x1 p1 fun α2 st2 ds vs H2 a2 x2 xb r2 p2 => p2 α2 H2 _ xb a2.lk (.cons (RV.mono x2.toGr r1) r2)
/-- a tuple that is written out -/
def cTup (es : List E) : E := fun ρ st => (cArgs es ρ st).bind fun xs st => .ok (.tup xs) st
theorem tG_next2 {K : Frag} {β γ β' γ' : Type} {rel : Rel β γ} {rel' : Rel β' γ'} {e : Env → Sto → R β} {f : β → Sto → R β'} {σ : L2.St} {H0 H1 : Hp} {Q : γ' → Hp → Prop} {T : γ → Hp → Prop} {α α0 : Nat → Addr} {st : Sto} {N0 : Nat} {ρ : Env}
    (a : At K ca α st H1 ρ σ) (x : Xt K α0 N0 H0 α st.length H1) (p : Post K ca rel' α0 N0 H0 (fun c d H' => W c d σ H') Q ((e ρ st).bind f))
    (go : ∀ α2 st2 b g H2, e ρ st = .ok b st2 → At K ca α2 st2 H2 ρ σ → Xt K α0 N0 H0 α2 st2.length H2 → rel H1 α2 st2.length H2 b g → Post K ca rel' α0 N0 H0 (fun c d H' => W c d σ H') Q (f b st2) → T g H2) :
    tG K ca rel W e σ H1 T := by
  refine ⟨α, st, ρ, a, ?_⟩
  cases q : e ρ st with
  | ok b st1 => rw [q] at p; exact fun α1 H2 g x2 L r => go α1 st1 b g H2 q (a.later x2 L) (x.trans x2) r p
  | exc c fs st1 => rw [q] at p; exact fun α1 H2 dd x2 L r => p α1 H2 dd (x.trans x2) L r
  | bad => rw [q] at p; exact p
theorem qe_tup {x1} {ees : List E} (h : QA X ca W es (cArgs ees)) (hz : ees.length ≤ 1000 := by decide) : QE X ca W (.Tuple es x1 pos) (cTup ees) :=
  peW (pe_tup h) fun σ H Q ⟨α, st, ρ, a, p⟩ => tG_next2 a .refl p fun α1 st1 ds vs H1 q a1 x1 r1 p1 => by
    have e := cArgs_length q
    have e2 := RVs.length r1
    refine ⟨by rw [sizeLine_eq]; omega, fun p hp => fin_tup p1 x1 a1.lk r1 hp⟩
/-- a list that is written out: no name holds it yet -/
def cLst (es : List E) : EL := cArgs es
theorem fin_new {K : Frag} {α α0 : Nat → Addr} {st : Sto} {N0 : Nat} {H H0 : Hp} {W : XK} {Q : VK} {xs : List D} {vs : List V} {p : Addr} (q : Post K ca (relL K) α0 N0 H0 W Q (.ok xs st)) (xt : Xt K α0 N0 H0 α st.length H) (L : Lk K ca α st H)
    (r : RVs K α st.length H xs vs) (hp : H p = none) : Q (.ref p) (upd H p (.lst vs)) :=
  q α _ _ (xt.trans (xt_new hp)) (L.temp hp) ⟨p, vs, rfl, xt.fresh hp, upd_same, r.mono (xt_new hp).toGr, fun n hn e => by
    obtain ⟨x, hx⟩ := L.there hn
    rw [e, hp] at hx; cases hx⟩
theorem bindok {β : Type} (r : R β) : r.bind (fun x st => .ok x st) = r := by cases r <;> rfl
theorem ql_lst {ees : List E} (h : QA X ca W es (cArgs ees)) (hz : ees.length ≤ 1000 := by decide) : QL X ca W (.List es pos) (cLst ees) :=
  peW (pe_lst h) fun σ H Q ⟨α, st, ρ, a, p⟩ => by
    have p : Post X.K ca (relL X.K) α st.length H (fun c d H' => W c d σ H') Q ((cArgs ees ρ st).bind fun xs st => .ok xs st) := by rw [bindok]; exact p
    refine tG_next2 a .refl p fun α1 st1 ds vs H1 q a1 x1 r1 p1 => ?_
    have e := cArgs_length q
    have e2 := RVs.length r1
    exact ⟨by rw [sizeLine_eq]; omega, fun p hp => fin_new p1 x1 a1.lk r1 hp⟩
/-- a list in passing is kept -/
def cNew (e : EL) : E := fun ρ st => (e ρ st).bind fun xs st => .ok (.loc st.length) (st ++ [.lst xs])
theorem qe_new {e : EL} (h : QL X ca W a e) : QE X ca W a (cNew e) :=
  peW h fun σ H Q ⟨α, st, ρ, at0, p⟩ => tG_next2 at0 .refl p fun α1 st1 ds v H1 q a1 x1 r1 p1 => by
    obtain ⟨p, vs, rfl, h0, h1, r, hn⟩ := r1
    obtain ⟨L2, x2⟩ := a1.lk.adopt h1 hn (.lst r) x1 h0
    refine p1 _ H1 _ x2 L2 ?_
    have e : V.ref p = V.ref (ext α1 st1.length p st1.length) := by rw [ext_at]
    rw [e]
    exact .loc (by simp)

/-! ### what is read as a list: a tuple, a list, a list in passing -/
def relS (K : Frag) : Rel (List D) V := fun _ α N H xs v => ∃ p vs, v = .ref p ∧ (SqL K H p vs ∨ SqT K H p vs) ∧ RVs K α N H xs vs
theorem relS_ok {K : Frag} : RelOk (relS K) K := fun _ _ _ _ _ _ _ _ _ _ _ _ _ h => h
def QS (X : Cx) (ca : Nat → Addr) (W : WX) (x : Expr) (e : EL) : Prop := PE X x (tG X.K ca (relS X.K) W e)
def seqD : D → Sto → R (List D)
  | .tup xs, st => .ok xs st
  | .con xs, st => .ok xs st
  | .loc n, st => match st[n]? with
    | some (.lst xs) => .ok xs st
    | _ => .bad
  | _, _ => .bad
def cSeq (e : E) : EL := fun ρ st => (e ρ st).bind seqD
theorem qs_e (h : QE X ca W a ea) : QS X ca W a (cSeq ea) :=
  peW h fun σ H Q ⟨α, st, ρ, a, p⟩ => tG_next a .refl p fun α1 st1 d v H1 a1 _ x1 r1 p1 => by
    cases r1 <;> try exact False.elim p1
    · rename_i h r
      exact p1 α1 H1 _ x1 a1.lk ⟨_, _, rfl, .inr h, r⟩
    · rename_i h r
      exact p1 α1 H1 _ x1 a1.lk ⟨_, _, rfl, .inl h.sq, r⟩
    · simp only [seqD] at p1
      split at p1
      · rename_i xs e
        obtain ⟨vs, h1, q1⟩ := lk_lst a1.lk e
        exact p1 α1 H1 _ x1 a1.lk ⟨_, _, rfl, .inl (.inl (.inl h1)), q1⟩
      · exact p1.elim
theorem qs_l {e : EL} (h : QL X ca W a e) : QS X ca W a e :=
  peW h fun σ H Q ⟨α, st, ρ, a, p⟩ => by
    refine ⟨α, st, ρ, a, ?_⟩
    revert p
    cases e ρ st with
    | ok xs st1 =>
      intro p α1 H1 v x1 L r
      obtain ⟨q, vs, rfl, h0, h1, r, hn⟩ := r
      exact p α1 H1 _ x1 L ⟨q, vs, rfl, .inl (.inl (.inl h1)), r⟩
    | exc c fs st1 => exact fun p => p
    | bad => exact fun p => p

/-! ### built-ins of one argument -/
variable {r : List V → Hp → VK → Prop} {x : Str} {p0 : Pos}
theorem pa1 {t : TE} (h : PE X a t) (hs : starEach [a] X.env = (false, eval a X.env) :: starEach [] X.env := by rfl) : PA X [a] (tCons t tNil) := pa_cons h pa_nil hs
def cB1 {β : Type} (f : D → Sto → R β) (e : E) : Env → Sto → R β := fun ρ st => (e ρ st).bind f
def cS1 {β : Type} (f : List D → Sto → R β) (e : EL) : Env → Sto → R β := fun ρ st => (e ρ st).bind f
/-- a rule for a call by values: of one value; of one thing read as a list -/
def ruleD {β : Type} (K : Frag) (ca : Nat → Addr) (rel : Rel β V) (f : D → Sto → R β) (r : List V → Hp → VK → Prop) : Prop := ∀ α st α0 N0 H0 H W d v (Q : VK), Lk K ca α st H → Xt K α0 N0 H0 α st.length H → RV K α st.length H d v → Post K ca rel α0 N0 H0 W Q (f d st) → r [v] H Q
def ruleS {β : Type} (K : Frag) (ca : Nat → Addr) (rel : Rel β V) (f : List D → Sto → R β) (r : List V → Hp → VK → Prop) : Prop := ∀ α st α0 N0 H0 H W xs p vs (Q : VK), Lk K ca α st H → Xt K α0 N0 H0 α st.length H → (SqL K H p vs ∨ SqT K H p vs) → RVs K α st.length H xs vs → Post K ca rel α0 N0 H0 W Q (f xs st) → r [.ref p] H Q
theorem qb1 {β : Type} {rel : Rel β V} {f : D → Sto → R β} {id : String} (rule : ruleD X.K ca rel f r) (hc : CallR X (.builtin id) r) (ha : QE X ca W a ea) (hg : Gl X x) (hm : X.mg x = none) (hv : bootBuiltins x = some (.builtin id)) (hn : x ≠ "__name__" := by decide) (hdb : (x == ("__debug__" : Str)) = false := by decide)
    (hs : starEach [a] X.env = (false, eval a X.env) :: starEach [] X.env := by rfl) : PE X (.Call (.Name x p0) [a] [] pos) (tG X.K ca rel W (cB1 f ea)) :=
  peW (pe_callB hc hg hm hv (pa1 ha hs) hn hdb hs (by rfl)) fun σ H Q ⟨α, st, ρ, a, p⟩ => tG_next a .refl p fun α1 st1 d v H1 a1 _ x1 r1 p1 => rule _ _ _ _ _ _ _ _ _ _ a1.lk x1 r1 p1
theorem qt1 {β : Type} {rel : Rel β V} {f : D → Sto → R β} {T : String} (rule : ruleD X.K ca rel f r) (hc : CallR X (.type T) r) (ha : QE X ca W a ea) (hg : Gl X x) (hm : X.mg x = none) (hv : bootBuiltins x = some (.type T)) (hn : x ≠ "__name__" := by decide) (hdb : (x == ("__debug__" : Str)) = false := by decide)
    (hs : starEach [a] X.env = (false, eval a X.env) :: starEach [] X.env := by rfl) : PE X (.Call (.Name x p0) [a] [] pos) (tG X.K ca rel W (cB1 f ea)) :=
  peW (pe_callTy hc hg hm hv (pa1 ha hs) hn hdb hs (by rfl)) fun σ H Q ⟨α, st, ρ, a, p⟩ => tG_next a .refl p fun α1 st1 d v H1 a1 _ x1 r1 p1 => rule _ _ _ _ _ _ _ _ _ _ a1.lk x1 r1 p1
theorem qbS {β : Type} {rel : Rel β V} {f : List D → Sto → R β} {id : String} {e : EL} (rule : ruleS X.K ca rel f r) (hc : CallR X (.builtin id) r) (ha : QS X ca W a e) (hg : Gl X x) (hm : X.mg x = none) (hv : bootBuiltins x = some (.builtin id)) (hn : x ≠ "__name__" := by decide) (hdb : (x == ("__debug__" : Str)) = false := by decide)
    (hs : starEach [a] X.env = (false, eval a X.env) :: starEach [] X.env := by rfl) : PE X (.Call (.Name x p0) [a] [] pos) (tG X.K ca rel W (cS1 f e)) :=
  peW (pe_callB hc hg hm hv (pa1 ha hs) hn hdb hs (by rfl)) fun σ H Q ⟨α, st, ρ, a, p⟩ => tG_next a .refl p fun α1 st1 d v H1 a1 _ x1 ⟨q, vs, e, h, r1⟩ p1 => by
    subst e
    exact rule _ _ _ _ _ _ _ _ _ _ _ a1.lk x1 h r1 p1
theorem qtS {β : Type} {rel : Rel β V} {f : List D → Sto → R β} {T : String} {e : EL} (rule : ruleS X.K ca rel f r) (hc : CallR X (.type T) r) (ha : QS X ca W a e) (hg : Gl X x) (hm : X.mg x = none) (hv : bootBuiltins x = some (.type T)) (hn : x ≠ "__name__" := by decide) (hdb : (x == ("__debug__" : Str)) = false := by decide)
    (hs : starEach [a] X.env = (false, eval a X.env) :: starEach [] X.env := by rfl) : PE X (.Call (.Name x p0) [a] [] pos) (tG X.K ca rel W (cS1 f e)) :=
  peW (pe_callTy hc hg hm hv (pa1 ha hs) hn hdb hs (by rfl)) fun σ H Q ⟨α, st, ρ, a, p⟩ => tG_next a .refl p fun α1 st1 d v H1 a1 _ x1 ⟨q, vs, e, h, r1⟩ p1 => by
    subst e
    exact rule _ _ _ _ _ _ _ _ _ _ _ a1.lk x1 h r1 p1

/-- len -/
def lenD : D → Sto → R D
  | .str y, st => if y.length ≤ sizeLine then .ok (.int y.length) st else .bad
  | .tup xs, st => .ok (.int xs.length) st
  | .con xs, st => .ok (.int xs.length) st
  | .loc n, st => match st[n]? with
    | some (.lst xs) => .ok (.int xs.length) st
    | some (.dct xs) => .ok (.int xs.length) st
    | _ => .bad
  | _, _ => .bad
def rLen (X : Cx) : List V → Hp → VK → Prop := fun xs H Q => (∃ x n, xs = [x] ∧ LenV X.K x H n ∧ Q (.int n) H) ∨ ∃ a kvs, xs = [V.ref a] ∧ H a = some (.dK kvs) ∧ Q (.int kvs.length) H
theorem call_lenA : CallR X (.builtin "len") (rLen X) := by
  intro pins s σ H xs us Q I r h
  rcases h with h | h
  · exact call_len pins s σ H xs us Q I r h
  · exact call_lenD pins s σ H xs us Q I r h
theorem rule_len : ruleD X.K ca (relV X.K) lenD (rLen X) := by
  intro α st α0 N0 H0 H W d v Q L xt r p
  cases r <;> try exact False.elim p
  · simp only [lenD] at p
    split at p
    · rename_i h
      exact .inl ⟨_, _, rfl, ⟨h, rfl⟩, p α H _ xt L (.int _)⟩
    · exact p.elim
  · rename_i h r
    exact .inl ⟨_, _, rfl, .inr ⟨_, h, rfl⟩, by rw [← r.length]; exact p α H _ xt L (.int _)⟩
  · rename_i h r
    exact .inl ⟨_, _, rfl, .inl ⟨_, h.sq, rfl⟩, by rw [← r.length]; exact p α H _ xt L (.int _)⟩
  · simp only [lenD] at p
    split at p
    · rename_i xs e
      obtain ⟨vs, h1, q1⟩ := lk_lst L e
      exact .inl ⟨_, _, rfl, .inl ⟨_, .inl (.inl h1), rfl⟩, by rw [← q1.length]; exact p α H _ xt L (.int _)⟩
    · rename_i xs e
      obtain ⟨ho, h1, q1⟩ := L.at_ _ _ e
      cases q1 with
      | dct q1 => exact .inr ⟨_, _, rfl, h1, by rw [← q1.length]; exact p α H _ xt L (.int _)⟩
    · exact p.elim
theorem qe_len (ha : QE X ca W a ea) (hg : Gl X "len") (hm : X.mg "len" = none) (hs : starEach [a] X.env = (false, eval a X.env) :: starEach [] X.env := by rfl) : QE X ca W (.Call (.Name "len" p0) [a] [] pos) (cB1 lenD ea) :=
  qb1 rule_len call_lenA ha hg hm PySem.boot_len (by decide) (by decide) hs
/-- len of a list in passing -/
def lenS : List D → Sto → R D := fun xs st => .ok (.int xs.length) st
theorem rule_lenS : ruleS X.K ca (relV X.K) lenS (rLen X) := by
  intro α st α0 N0 H0 H W xs p vs Q L xt h r q
  refine .inl ⟨_, vs.length, rfl, ?_, by rw [← r.length]; exact q α H _ xt L (.int _)⟩
  rcases h with h | h
  · exact .inl ⟨_, h, rfl⟩
  · exact .inr ⟨_, h, rfl⟩
theorem qe_lenS {e : EL} (ha : QS X ca W a e) (hg : Gl X "len") (hm : X.mg "len" = none) (hs : starEach [a] X.env = (false, eval a X.env) :: starEach [] X.env := by rfl) : QE X ca W (.Call (.Name "len" p0) [a] [] pos) (cS1 lenS e) :=
  qbS rule_lenS call_lenA ha hg hm PySem.boot_len (by decide) (by decide) hs
/-- tuple(xs) -/
def tupS : List D → Sto → R D := fun xs st => .ok (.tup xs) st
theorem rule_tup : ruleS X.K ca (relV X.K) tupS (fun xs H Q => ∃ p ys, xs = [.ref p] ∧ ((SqL X.K H p ys ∧ ∀ l, H l = none → Q (.ref l) (upd H l (.tup ys))) ∨ (SqT X.K H p ys ∧ Q (.ref p) H))) := by
  intro α st α0 N0 H0 H W xs p vs Q L xt h r q
  refine ⟨p, vs, rfl, ?_⟩
  rcases h with h | h
  · exact .inl ⟨h, fun l hl => fin_tup q xt L r hl⟩
  · exact .inr ⟨h, q α H _ xt L (.tup h r)⟩
theorem qe_tuple {e : EL} (ha : QS X ca W a e) (hg : Gl X "tuple") (hm : X.mg "tuple" = none) (hs : starEach [a] X.env = (false, eval a X.env) :: starEach [] X.env := by rfl) : QE X ca W (.Call (.Name "tuple" p0) [a] [] pos) (cS1 tupS e) :=
  qtS rule_tup call_tuple_of ha hg hm (by decide +kernel) (by decide) (by decide) hs
/-- list(xs) -/
def lstS : List D → Sto → R (List D) := fun xs st => .ok xs st
theorem rule_lst : ruleS X.K ca (relL X.K) lstS (fun xs H Q => ∃ p ys, xs = [.ref p] ∧ (SqL X.K H p ys ∨ SqT X.K H p ys) ∧ ∀ l, H l = none → Q (.ref l) (upd H l (.lst ys))) := by
  intro α st α0 N0 H0 H W xs p vs Q L xt h r q
  exact ⟨p, vs, rfl, h, fun l hl => fin_new q xt L r hl⟩
theorem ql_list {e : EL} (ha : QS X ca W a e) (hg : Gl X "list") (hm : X.mg "list" = none) (hs : starEach [a] X.env = (false, eval a X.env) :: starEach [] X.env := by rfl) : QL X ca W (.Call (.Name "list" p0) [a] [] pos) (cS1 lstS e) :=
  qtS rule_lst call_list_of ha hg hm (by decide +kernel) (by decide) (by decide) hs
/-- int(x) -/
def intD : D → Sto → R D
  | .int i, st => .ok (.int i) st
  | .bl k, st => .ok (.int (if k then 1 else 0)) st
  | _, _ => .bad
theorem rule_int : ruleD X.K ca (relV X.K) intD (fun xs H Q => (∃ i, xs = [.int i] ∧ Q (.int i) H) ∨ ∃ k, xs = [.bl k] ∧ Q (.int (if k then 1 else 0)) H) := by
  intro α st α0 N0 H0 H W d v Q L xt r p
  cases r <;> try exact False.elim p
  · exact .inr ⟨_, rfl, p α H _ xt L (.int _)⟩
  · exact .inl ⟨_, rfl, p α H _ xt L (.int _)⟩
theorem qe_intOf (ha : QE X ca W a ea) (hg : Gl X "int") (hm : X.mg "int" = none) (hs : starEach [a] X.env = (false, eval a X.env) :: starEach [] X.env := by rfl) : QE X ca W (.Call (.Name "int" p0) [a] [] pos) (cB1 intD ea) :=
  qt1 rule_int call_int1 ha hg hm (by decide +kernel) (by decide) (by decide) hs
/-- abs(x) -/
def absD : D → Sto → R D
  | .int i, st => .ok (.int (if i < 0 then -i else i)) st
  | _, _ => .bad
theorem rule_abs : ruleD X.K ca (relV X.K) absD (fun xs H Q => ∃ i, xs = [.int i] ∧ Q (.int (if i < 0 then -i else i)) H) := by
  intro α st α0 N0 H0 H W d v Q L xt r p
  cases r <;> try exact False.elim p
  exact ⟨_, rfl, p α H _ xt L (.int _)⟩
theorem qe_abs (ha : QE X ca W a ea) (hg : Gl X "abs") (hm : X.mg "abs" = none) (hs : starEach [a] X.env = (false, eval a X.env) :: starEach [] X.env := by rfl) : QE X ca W (.Call (.Name "abs" p0) [a] [] pos) (cB1 absD ea) :=
  qb1 rule_abs call_abs ha hg hm (by decide +kernel) (by decide) (by decide) hs
end
end PM

set_option Elab.async false
set_option linter.all false
set_option maxRecDepth 100000
set_option maxHeartbeats 4000000
/-! PM4: subscripts, slices, attributes, in, more built-ins. -/
namespace PM
open PySem PySem.Spec PyProof.Rows L2

/-! ### dicts as lists of pairs -/
section
variable {κ : Type} [DecidableEq κ]
def valD (kvs : List (κ × D)) (k : κ) : Option D := (kvs.find? fun kv => decide (kv.1 = k)).map (·.2)
def putD (kvs : List (κ × D)) (k : κ) (v : D) : List (κ × D) :=
  if kvs.any (fun kv => decide (kv.1 = k)) then kvs.map fun kv => if kv.1 = k then (kv.1, v) else kv else kvs ++ [(k, v)]
def dropD (kvs : List (κ × D)) (k : κ) : List (κ × D) := kvs.filter fun kv => decide (kv.1 ≠ k)
variable {K : Frag} {α : Nat → Addr} {N : Nat} {H : Hp}
theorem RKs.val (k : κ) : ∀ {d : List (κ × D)} {v : List (κ × V)}, RKs K α N H d v → (valD d k = none ∧ valV v k = none) ∨ ∃ x y, valD d k = some x ∧ valV v k = some y ∧ RV K α N H x y
  | _, _, .nil => .inl ⟨rfl, rfl⟩
  | _, _, .cons (k := k') (d := d) (v := v) (xs := xs) (vs := vs) h r => by
    by_cases e : k' = k
    · refine .inr ⟨d, v, ?_, ?_, h⟩
      · simp [valD, List.find?_cons, e]
      · simp [valV, List.find?_cons, e]
    · have e1 : valD ((k', d) :: xs) k = valD xs k := by simp [valD, List.find?_cons, e]
      have e2 : valV ((k', v) :: vs) k = valV vs k := by simp [valV, List.find?_cons, e]
      rw [e1, e2]
      exact RKs.val k r
theorem RKs.any (k : κ) : ∀ {d : List (κ × D)} {v : List (κ × V)}, RKs K α N H d v → (d.any fun kv => decide (kv.1 = k)) = v.any fun kv => decide (kv.1 = k)
  | _, _, .nil => rfl
  | _, _, .cons h r => by rw [List.any_cons, List.any_cons, RKs.any k r]
theorem RKs.append : ∀ {d e : List (κ × D)} {v w : List (κ × V)}, RKs K α N H d v → RKs K α N H e w → RKs K α N H (d ++ e) (v ++ w)
  | _, _, _, _, .nil, s => s
  | _, _, _, _, .cons r t, s => .cons r (RKs.append t s)
theorem RKs.repl (k : κ) {x : D} {y : V} (q : RV K α N H x y) : ∀ {d : List (κ × D)} {v : List (κ × V)}, RKs K α N H d v → RKs K α N H (d.map fun kv => if kv.1 = k then (kv.1, x) else kv) (v.map fun kv => if kv.1 = k then (kv.1, y) else kv)
  | _, _, .nil => .nil
  | _, _, .cons (k := k') h r => by
    rw [List.map_cons, List.map_cons]
    by_cases e : k' = k
    · simp only [e, if_true]; exact .cons q (RKs.repl k q r)
    · simp only [e, if_false]; exact .cons h (RKs.repl k q r)
theorem RKs.put {d : List (κ × D)} {v : List (κ × V)} (r : RKs K α N H d v) (k : κ) {x : D} {y : V} (q : RV K α N H x y) : RKs K α N H (putD d k x) (putK v k y) := by
  unfold putD putK
  rw [r.any k]
  split
  · exact r.repl k q
  · exact r.append (.cons q .nil)
theorem RKs.drop (k : κ) : ∀ {d : List (κ × D)} {v : List (κ × V)}, RKs K α N H d v → RKs K α N H (dropD d k) (dropK v k)
  | _, _, .nil => .nil
  | _, _, .cons (k := k') h r => by
    have ih := RKs.drop k r
    unfold dropD dropK at ih ⊢
    rw [List.filter_cons, List.filter_cons]
    by_cases e : k' = k
    · rw [if_neg (by simp [e]), if_neg (by simp [e])]; exact ih
    · rw [if_pos (by simp [e]), if_pos (by simp [e])]; exact .cons h ih
theorem RKs.keys : ∀ {d : List (κ × D)} {v : List (κ × V)}, RKs K α N H d v → d.map (·.1) = v.map (·.1)
  | _, _, .nil => rfl
  | _, _, .cons _ r => by rw [List.map_cons, List.map_cons, RKs.keys r]
theorem RKs.get {κ : Type} {d : List (κ × D)} {v : List (κ × V)} (r : RKs K α N H d v) {i : Nat} {k : κ} {x : D} (e : d[i]? = some (k, x)) : ∃ y, v[i]? = some (k, y) ∧ RV K α N H x y := by
  induction r generalizing i with
  | nil => simp at e
  | cons h r ih =>
    cases i with
    | zero => simp at e; obtain ⟨rfl, rfl⟩ := e; exact ⟨_, rfl, h⟩
    | succ i =>
      obtain ⟨y, h1, h2⟩ := ih (i := i) (by simpa using e)
      exact ⟨y, by simpa using h1, h2⟩
end
/-- a field of an instance -/
def fldD (fs : List (Str × D)) (f : Str) : Option D := fs.lookup f
def putFD (f : Str) (v : D) : List (Str × D) → List (Str × D)
  | [] => [(f, v)]
  | (g, x) :: r => if g = f then (g, v) :: r else (g, x) :: putFD f v r
section
variable {K : Frag} {α : Nat → Addr} {N : Nat} {H : Hp}
theorem RKs.fld (f : Str) : ∀ {d : List (Str × D)} {v : List (Str × V)}, RKs K α N H d v → (d.lookup f = none ∧ v.lookup f = none) ∨ ∃ x y, d.lookup f = some x ∧ v.lookup f = some y ∧ RV K α N H x y
  | _, _, .nil => .inl ⟨rfl, rfl⟩
  | _, _, .cons (k := k') h r => by
    simp only [List.lookup]
    by_cases e : f = k'
    · simp only [e, beq_self_eq_true]; exact .inr ⟨_, _, rfl, rfl, h⟩
    · have : (f == k') = false := by simpa using e
      simp only [this]
      exact RKs.fld f r
theorem RKs.putF (f : Str) {x : D} {y : V} (q : RV K α N H x y) : ∀ {d : List (Str × D)} {v : List (Str × V)}, RKs K α N H d v → RKs K α N H (putFD f x d) (L2.putF f y v)
  | _, _, .nil => .cons q .nil
  | _, _, .cons (k := k') h r => by
    unfold putFD L2.putF
    split
    · exact .cons q r
    · exact .cons h (RKs.putF f q r)
end

def keyD : D → Option Key
  | .int i => some (.inl i)
  | .str x => some (.inr x)
  | _ => none
theorem keyD_ok {K : Frag} {α : Nat → Addr} {N : Nat} {H : Hp} {d : D} {v : V} {k : Key} (r : RV K α N H d v) (e : keyD d = some k) : v = kV k := by
  cases r <;> simp only [keyD, Option.some.injEq, reduceCtorEq] at e <;> subst e <;> rfl

/-! ### subscripts -/
theorem subTail_of {prog : Program} {w : World} {A : Around} {E : Value → Shared → Prop} {s : Shared} {value slice : Expr} {o i : Value} {T id : String} {Q : Value → Shared → Prop}
    (hl : typeLookup (.type T) "__getitem__" = pure (some (.builtin id))) (hs : subscripted slice false o i = operate [o, i] (getItem o i)) (hT : s.TypeIs o T)
    (h₂ : wpAny (model prog w) A (getItem o i) Q E s) : wpAny (model prog w) A (subscriptTail value slice o i) Q E s := by
  unfold subscriptTail
  refine wpAny_bind ?_
  rw [getitemInPython_of_ne hT.not_modules]
  refine wpAny_bind (wpAny_specialOf hT hl ?_)
  have fin : wpAny (model prog w) A (subscripted slice false o i) (fun r s₃ => wpAny (model prog w) A (letTemporaryGo value o r >>= fun _ => pure r) Q E s₃) E s := by
    rw [hs]
    exact wpAny_operating (wpAny_mono h₂ (fun r s₃ h₃ => wpAny_bind (wpAny_letTemporaryGo (wpAny_pure h₃))) fun _ _ x => x)
  first
    | exact wpAny_pure (wpAny_bind fin)
    | exact wpAny_bind (wpAny_pure (wpAny_bind fin))
    | exact wpAny_bind fin
section
variable {X : Cx} {ca : Nat → Addr} {W : WX} {a b c : Expr} {ea eb ec : E} {pos : Pos} {es : List Expr} {rest : List Expr} {x : Str} {p0 apos cpos : Pos}
theorem ix_dict (hu : X.A.units + 1 < cLine) : IxR X (fun x y H Q => ∃ a v, x = .ref a ∧ DGet H a y (some v) ∧ Q v H) := by
  intro value slice pins s σ H x y v u Q I rx ry ⟨a, z, e, g, q⟩ hs
  subst e
  cases rx
  exact subTail_of PySem.F.slot_dict_getitem.lookup hs (dict_typeIs I g) (d_getItem hu I g ry fun w' s3 I3 rw' => ⟨z, H, I3, rw', q⟩)
def rIxA (X : Cx) : R2 := fun x y H Q => rIx X.K x y H Q ∨ ∃ a v, x = .ref a ∧ DGet H a y (some v) ∧ Q v H
theorem ix_any (hu : X.A.units + 1 < cLine) : IxR X (rIxA X) := ix_seq.or (ix_dict hu)
def atD (xs : List D) (y : D) (st : Sto) : R D := match y with
  | .int i => match atI xs i with
    | some d => .ok d st
    | none => .bad
  | _ => .bad
def atK (kvs : List (Key × D)) (y : D) (st : Sto) : R D := match keyD y with
  | some k => match valD kvs k with
    | some d => .ok d st
    | none => .bad
  | none => .bad
/-- x[y] -/
def getD : D → D → Sto → R D
  | .tup xs, y, st => atD xs y st
  | .con xs, y, st => atD xs y st
  | .str z, .int i, st => if z.length ≤ sizeLine then match atI z.cps.toList i with
    | some c => .ok (.str ⟨#[c]⟩) st
    | none => .bad else .bad
  | .loc n, y, st => match st[n]? with
    | some (.lst xs) => atD xs y st
    | some (.dct kvs) => atK kvs y st
    | some (.fdc kvs) => atK kvs y st
    | _ => .bad
  | _, _, _ => .bad
theorem atI_rel {K : Frag} {α : Nat → Addr} {N : Nat} {H : Hp} {d : List D} {v : List V} {i : Int} {x : D} (r : RVs K α N H d v) (e : atI d i = some x) : ∃ y, atI v i = some y ∧ RV K α N H x y := by
  unfold atI at e ⊢
  rw [← r.length]
  cases q : ixN d.length i with
  | none => rw [q] at e; cases e
  | some j =>
    rw [q] at e
    exact r.get e
theorem d_get (hu : X.A.units + 1 < cLine) : IxR X (rD2 X.K ca getD) := by
  intro value slice pins s σ H x y v u Q I rx ry ⟨α, st, α0, N0, H0, dx, dy, W, L, xt, r1, r2, p⟩ hs
  refine ix_any hu value slice pins s σ H x y v u Q I rx ry ?_ hs
  have at_ : ∀ {xs : List D} {vs : List V}, RVs X.K α st.length H xs vs → Post X.K ca (relV X.K) α0 N0 H0 W Q (atD xs dy st) → ∃ i z, y = .int i ∧ atI vs i = some z ∧ Q z H := fun {xs vs} r p => by
    unfold atD at p
    cases r2 <;> try exact False.elim p
    rename_i i _
    dsimp only at p
    cases e : atI xs i with
    | none => rw [e] at p; exact p.elim
    | some d =>
      rw [e] at p
      obtain ⟨z, h1, h2⟩ := atI_rel r e
      exact ⟨i, z, rfl, h1, p α H z xt L h2⟩
  have atk : ∀ {kvs : List (Key × D)} {ks : List (Key × V)}, RKs X.K α st.length H kvs ks → Post X.K ca (relV X.K) α0 N0 H0 W Q (atK kvs dy st) → ∃ k z, y = kV k ∧ valV ks k = some z ∧ Q z H := fun {kvs ks} r p => by
    unfold atK at p
    cases e : keyD dy with
    | none => rw [e] at p; exact p.elim
    | some k =>
      rw [e] at p
      dsimp only at p
      rcases r.val k with ⟨e1, _⟩ | ⟨x1, y1, e1, e2, r3⟩
      · rw [e1] at p; exact p.elim
      · rw [e1] at p
        exact ⟨k, y1, keyD_ok r2 e, e2, p α H _ xt L r3⟩
  cases r1 with
  | tup h r =>
    obtain ⟨i, z, e, h1, q⟩ := at_ r p
    exact .inl (.inr (.inl ⟨_, _, _, _, rfl, e, h, h1, q⟩))
  | con h r =>
    obtain ⟨i, z, e, h1, q⟩ := at_ r p
    exact .inl (.inl ⟨_, _, _, _, rfl, e, h.sq, h1, q⟩)
  | str z =>
    cases r2 <;> try exact False.elim p
    rename_i i
    simp only [getD] at p
    split at p
    · rename_i hz
      cases e : atI z.cps.toList i with
      | none => rw [e] at p; exact p.elim
      | some c =>
        rw [e] at p
        exact .inl (.inr (.inr ⟨_, _, _, rfl, rfl, hz, e, p α H _ xt L (.str _)⟩))
    · exact p.elim
  | loc hn =>
    simp only [getD] at p
    split at p
    · rename_i xs e
      obtain ⟨vs, h1, q1⟩ := lk_lst L e
      obtain ⟨i, z, e, h2, q⟩ := at_ q1 p
      exact .inl (.inl ⟨_, _, _, _, rfl, e, .inl (.inl h1), h2, q⟩)
    · rename_i xs e
      obtain ⟨ho, h1, q1⟩ := L.at_ _ _ e
      cases q1 with
      | dct q1 =>
        obtain ⟨k, z, e, h2, q⟩ := atk q1 p
        exact .inr ⟨_, z, rfl, .inl ⟨_, k, .inl h1, e, h2.symm⟩, q⟩
    · rename_i xs e
      obtain ⟨ho, h1, q1⟩ := L.at_ _ _ e
      cases q1 with
      | fdc q1 =>
        obtain ⟨k, z, e, h2, q⟩ := atk q1 p
        exact .inr ⟨_, z, rfl, .inl ⟨_, k, .inr ⟨_, h1⟩, e, h2.symm⟩, q⟩
    · exact p.elim
  | _ => exact False.elim p
theorem qe_ix (hu : X.A.units + 1 < cLine) (ha : QE X ca W a ea) (hb : QE X ca W b eb) (hs : PlainIx b := by intro _ _; rfl) : QE X ca W (.Subscript a b pos) (cOp2 getD ea eb) :=
  peW (pe_ix (d_get hu) ha hb hs) fun σ H Q h => tG_op2 h
/-- a list in passing, at an index -/
def cIxL (e : EL) (b : E) : E := fun ρ st => (e ρ st).bind fun xs st => (b ρ st).bind fun y st => atD xs y st
theorem qe_ixL {e : EL} (ha : QL X ca W a e) (hb : QE X ca W b eb) (hs : PlainIx b := by intro _ _; rfl) : QE X ca W (.Subscript a b pos) (cIxL e eb) :=
  peW (pe_ix ix_seq ha hb hs) fun σ H Q ⟨α, st, ρ, at0, p⟩ => tG_next at0 .refl p fun α1 st1 xs v H1 a1 _ x1 r1 p1 => tG_next a1 x1 p1 fun α2 st2 y u H2 a2 x2 xb r2 p2 => by
    obtain ⟨q, vs, rfl, h0, h1, r, hn⟩ := r1
    have h2 := x2.keep q _ h1 hn
    have r' := RVs.mono x2.toGr r
    unfold atD at p2
    cases r2 <;> try exact False.elim p2
    rename_i i
    dsimp only at p2
    cases e : atI xs i with
    | none => rw [e] at p2; exact p2.elim
    | some d =>
      rw [e] at p2
      obtain ⟨z, h3, h4⟩ := atI_rel r' e
      exact .inl ⟨_, _, _, _, rfl, rfl, .inl (.inl h2), h3, p2 α2 H2 z xb a2.lk h4⟩

/-! ### slices -/
def cutD (xs : List D) (lo hi : Option Int) : List D := (xs.drop (HT.sIx xs.length 0 lo)).take (HT.sIx xs.length xs.length hi - HT.sIx xs.length 0 lo)
theorem RVs.cut {K : Frag} {α : Nat → Addr} {N : Nat} {H : Hp} {d : List D} {v : List V} (r : RVs K α N H d v) (lo hi : Option Int) : RVs K α N H (cutD d lo hi) (cutV v lo hi) := by
  unfold cutD cutV
  rw [r.length]
  exact (r.drop _).take _
abbrev EO := Env → Sto → R (Option Int)
def relO : Rel (Option Int) (Option Int) := fun _ _ _ _ b c => b = c
structure QO (X : Cx) (ca : Nat → Addr) (W : WX) (e : Option Expr) (t : EO) : Prop where
  po : PO X e (tG X.K ca relO W t)
def cNoPart : EO := fun _ st => .ok none st
def cPart (e : E) : EO := fun ρ st => (e ρ st).bind fun x st => match x with
  | .int i => .ok (some i) st
  | _ => .bad
theorem poW {X : Cx} {x : Option Expr} {t t' : TO} (p : PO X x t) (h : ∀ σ H Q, t' σ H Q → t σ H Q) : PO X x t' := ⟨fun pins s σ H Q I q => p.run pins s σ H Q I (h σ H Q q)⟩
theorem qo_none : QO X ca W none cNoPart := ⟨poW po_none fun σ H Q ⟨α, st, ρ, a, p⟩ => p α H none .refl a.lk rfl⟩
theorem qo_some (h : QE X ca W a ea) : QO X ca W (some a) (cPart ea) :=
  ⟨poW (po_some h) fun σ H Q ⟨α, st, ρ, at0, p⟩ => tG_next at0 .refl p fun α1 st1 d v H1 a1 _ x1 r1 p1 => by
    cases r1 <;> try exact False.elim p1
    exact ⟨_, rfl, p1 α1 H1 _ x1 a1.lk rfl⟩⟩
/-- x[lo:hi] -/
def sliceD (x : D) (lo hi : Option Int) (st : Sto) : R D := match x with
  | .tup xs => .ok (.tup (cutD xs lo hi)) st
  | .con xs => .ok (.loc st.length) (st ++ [.lst (cutD xs lo hi)])
  | .str z => if z.length ≤ sizeLine then .ok (.str (cutS z lo hi)) st else .bad
  | .loc n => match st[n]? with
    | some (.lst xs) => .ok (.loc st.length) (st ++ [.lst (cutD xs lo hi)])
    | _ => .bad
  | _ => .bad
def cSlice (e : E) (lo hi : EO) : E := fun ρ st => (e ρ st).bind fun x st => (lo ρ st).bind fun l st => (hi ρ st).bind fun h st => sliceD x l h st
theorem cut_whole (xs : List V) (lo hi : Option Int) (h : HT.sIx xs.length 0 lo = 0 ∧ HT.sIx xs.length xs.length hi = xs.length) : cutV xs lo hi = xs := by
  unfold cutV
  rw [h.1, h.2]
  simp
theorem cutD_whole (xs : List D) (lo hi : Option Int) (h : HT.sIx xs.length 0 lo = 0 ∧ HT.sIx xs.length xs.length hi = xs.length) : cutD xs lo hi = xs := by
  unfold cutD
  rw [h.1, h.2]
  simp
def rSlAny (X : Cx) : V → Option Int → Option Int → Hp → VK → Prop := fun x lo hi H Q => rSlA X.K x lo hi H Q ∨ rSlL X.K x lo hi H Q ∨ rSlS x lo hi H Q
theorem sl_any : SlR X (rSlAny X) := sl_tupA.or (sl_list.or sl_str)
theorem qe_slice {lo hi : Option Expr} {tl th : EO} {p2 : Pos} (ha : QE X ca W a ea) (hl : QO X ca W lo tl) (hh : QO X ca W hi th) : QE X ca W (.Subscript a (.Slice lo hi none p2) pos) (cSlice ea tl th) :=
  peW (pe_slice sl_any ha hl.po hh.po) fun σ H Q ⟨α, st, ρ, at0, p⟩ => tG_next at0 .refl p fun α1 st1 d v H1 a1 _ x1 r1 p1 => tG_next a1 x1 p1 fun α2 st2 l l' H2 a2 x2 xb2 e2 p2 => tG_next a2 xb2 p2 fun α3 st3 h h' H3 a3 x3 xb3 e3 p3 => by
    cases e2
    cases e3
    have r3 := RV.mono (x2.trans x3).toGr r1
    cases r3 <;> try exact False.elim p3
    · rename_i z
      simp only [sliceD] at p3
      split at p3
      · rename_i hz
        exact .inr (.inr ⟨_, rfl, hz, p3 α3 H3 _ xb3 a3.lk (.str _)⟩)
      · exact p3.elim
    · rename_i h0 r0
      refine .inl ⟨_, _, rfl, h0, fun hw => ?_, fun _ q hq => fin_tup p3 xb3 a3.lk (r0.cut _ _) hq⟩
      rw [← r0.length] at hw
      have p4 : Post X.K ca (relV X.K) α st.length H _ Q (.ok (.tup (cutD _ l h)) st3) := p3
      rw [cutD_whole _ _ _ hw] at p4
      exact p4 α3 H3 _ xb3 a3.lk (.tup h0 r0)
    · rename_i h0 r0
      exact .inr (.inl ⟨_, _, rfl, h0.sq, fun q hq => fin_lst p3 xb3 a3.lk (r0.cut _ _) hq⟩)
    · simp only [sliceD] at p3
      split at p3
      · rename_i xs e
        obtain ⟨vs, h1, q1⟩ := lk_lst a3.lk e
        exact .inr (.inl ⟨_, _, rfl, .inl (.inl h1), fun q hq => fin_lst p3 xb3 a3.lk (q1.cut _ _) hq⟩)
      · exact p3.elim

/-! ### attributes -/
/-- what is known of the classes cs: instances of them hold the name f themselves -/
def Flds (X : Cx) (ca : Nat → Addr) (cs : List Nat) (f : Str) : Prop := ∀ c ∈ cs, Cls X.K (ca c) ∧ NoAttr X.K (ca c) f
def fldOf (cs : List Nat) (f : Str) : D → Sto → R D
  | .loc n, st => match st[n]? with
    | some (.ins c fs) => if c ∈ cs then match fs.lookup f with
      | some d => .ok d st
      | none => .bad else .bad
    | _ => .bad
  | _, _ => .bad
theorem lk_ins {K : Frag} {α : Nat → Addr} {st : Sto} {H : Hp} {n c : Nat} {fs : List (Str × D)} (L : Lk K ca α st H) (h : st[n]? = some (.ins c fs)) : ∃ dx gs, H (α n) = some (.ins (ca c) dx gs) ∧ RKs K α st.length H fs gs := by
  obtain ⟨ho, h1, h2⟩ := L.at_ n _ h
  cases h2 with
  | ins r => exact ⟨_, _, h1, r⟩
theorem qe_fld {cs : List Nat} {f : Str} (hc : Flds X ca cs f) (ha : QE X ca W a ea) (hb : attributeBase a f X.env (eval a X.env) = eval a X.env := by rfl) : QE X ca W (.Attribute a f pos) (cB1 (fldOf cs f) ea) :=
  peW (pe_fld ha hb) fun σ H Q ⟨α, st, ρ, at0, p⟩ => tG_next at0 .refl p fun α1 st1 d v H1 a1 _ x1 r1 p1 => by
    cases r1 <;> try exact False.elim p1
    simp only [fldOf] at p1
    split at p1 <;> try exact p1.elim
    rename_i c fs e
    split at p1 <;> try exact p1.elim
    rename_i hcs
    obtain ⟨dx, gs, h1, q1⟩ := lk_ins a1.lk e
    obtain ⟨k1, k2⟩ := hc c hcs
    rcases q1.fld f with ⟨e1, _⟩ | ⟨x2, y2, e1, e2, r2⟩
    · rw [e1] at p1; exact p1.elim
    · rw [e1] at p1
      exact ⟨_, _, _, _, _, rfl, h1, k1, k2, e2, p1 α1 H1 _ x1 a1.lk r2⟩

/-! ### lists put together -/
/-- a list of the store, or one in passing, at the moment -/
def relM (K : Frag) : Rel (List D) V := fun _ α N H xs v => ∃ p vs, v = .ref p ∧ H p = some (.lst vs) ∧ RVs K α N H xs vs
def QM (X : Cx) (ca : Nat → Addr) (W : WX) (x : Expr) (e : EL) : Prop := PE X x (tG X.K ca (relM X.K) W e)
def lstD : D → Sto → R (List D)
  | .loc n, st => match st[n]? with
    | some (.lst xs) => .ok xs st
    | _ => .bad
  | _, _ => .bad
def cLs (e : E) : EL := fun ρ st => (e ρ st).bind lstD
theorem qm_e (h : QE X ca W a ea) : QM X ca W a (cLs ea) :=
  peW h fun σ H Q ⟨α, st, ρ, at0, p⟩ => tG_next at0 .refl p fun α1 st1 d v H1 a1 _ x1 r1 p1 => by
    cases r1 <;> try exact False.elim p1
    simp only [lstD] at p1
    split at p1 <;> try exact p1.elim
    rename_i xs e
    obtain ⟨vs, h1, q1⟩ := lk_lst a1.lk e
    exact p1 α1 H1 _ x1 a1.lk ⟨_, _, rfl, h1, q1⟩
theorem qm_l {e : EL} (h : QL X ca W a e) : QM X ca W a e :=
  peW h fun σ H Q ⟨α, st, ρ, at0, p⟩ => by
    refine ⟨α, st, ρ, at0, ?_⟩
    revert p
    cases e ρ st with
    | ok xs st1 =>
      intro p α1 H1 v x1 L r
      obtain ⟨q, vs, rfl, h0, h1, r, hn⟩ := r
      exact p α1 H1 _ x1 L ⟨q, vs, rfl, h1, r⟩
    | exc c fs st1 => exact fun p => p
    | bad => exact fun p => p
def catL (xs ys : List D) (st : Sto) : R (List D) := if xs.length + ys.length ≤ sizeLine then .ok (xs ++ ys) st else .bad
/-- a list in passing + a list -/
def cCatL (a b : EL) : EL := fun ρ st => (a ρ st).bind fun xs st => (b ρ st).bind fun ys st => catL xs ys st
theorem ql_catL {e1 e2 : EL} (ha : QL X ca W a e1) (hb : QM X ca W b e2) : QL X ca W (.BinOp a .Add b pos) (cCatL e1 e2) :=
  peW (pe_op op_cat ha hb) fun σ H Q ⟨α, st, ρ, at0, p⟩ => tG_next at0 .refl p fun α1 st1 xs v H1 a1 _ x1 r1 p1 => tG_next a1 x1 p1 fun α2 st2 ys u H2 a2 x2 xb r2 p2 => by
    obtain ⟨q, vs, rfl, h0, h1, r, hn⟩ := r1
    obtain ⟨q2, ws, rfl, h3, r3⟩ := r2
    have h2 := x2.keep q _ h1 hn
    have r' := RVs.mono x2.toGr r
    unfold catL at p2
    split at p2 <;> try exact p2.elim
    rename_i hz
    rw [r'.length, r3.length] at hz
    exact ⟨_, _, _, _, rfl, rfl, h2, h3, hz, fun q hq => fin_new p2 xb a2.lk (r'.append r3) hq⟩
/-- a list of the store + a list -/
def cCatE (a : E) (b : EL) : EL := fun ρ st => (a ρ st).bind fun x st => (b ρ st).bind fun ys st => (lstD x st).bind fun xs st => catL xs ys st
theorem ql_catE {e2 : EL} (ha : QE X ca W a ea) (hb : QM X ca W b e2) : QL X ca W (.BinOp a .Add b pos) (cCatE ea e2) :=
  peW (pe_op op_cat ha hb) fun σ H Q ⟨α, st, ρ, at0, p⟩ => tG_next at0 .refl p fun α1 st1 d v H1 a1 _ x1 r1 p1 => tG_next a1 x1 p1 fun α2 st2 ys u H2 a2 x2 xb r2 p2 => by
    obtain ⟨q2, ws, rfl, h3, r3⟩ := r2
    have r1' := RV.mono x2.toGr r1
    cases r1' <;> try exact False.elim p2
    simp only [lstD] at p2
    split at p2 <;> try exact p2.elim
    rename_i xs e
    obtain ⟨vs, h1, q1⟩ := lk_lst a2.lk e
    simp only [R.bind_ok, catL] at p2
    split at p2 <;> try exact p2.elim
    rename_i hz
    rw [q1.length, r3.length] at hz
    exact ⟨_, _, _, _, rfl, rfl, h1, h3, hz, fun q hq => fin_new p2 xb a2.lk (q1.append r3) hq⟩
/-- a list in passing * n -/
def cRepL (a : EL) (b : E) : EL := fun ρ st => (a ρ st).bind fun xs st => (b ρ st).bind fun y st => match y with
  | .int k => if -(2 ^ 63) ≤ k ∧ k < 2 ^ 63 ∧ xs.length * k.toNat ≤ sizeLine then .ok (List.replicate k.toNat xs).flatten st else .bad
  | _ => .bad
theorem ql_rep {e1 : EL} (ha : QL X ca W a e1) (hb : QE X ca W b eb) : QL X ca W (.BinOp a .Mult b pos) (cRepL e1 eb) :=
  peW (pe_op op_rep ha hb) fun σ H Q ⟨α, st, ρ, at0, p⟩ => tG_next at0 .refl p fun α1 st1 xs v H1 a1 _ x1 r1 p1 => tG_next a1 x1 p1 fun α2 st2 y u H2 a2 x2 xb r2 p2 => by
    obtain ⟨q, vs, rfl, h0, h1, r, hn⟩ := r1
    have h2 := x2.keep q _ h1 hn
    have r' := RVs.mono x2.toGr r
    cases r2 <;> try exact False.elim p2
    rename_i k
    dsimp only at p2
    split at p2 <;> try exact p2.elim
    rename_i hz
    rw [r'.length] at hz
    exact ⟨_, _, _, rfl, rfl, h2, hz.1, hz.2.1, hz.2.2, fun q hq => fin_new p2 xb a2.lk (r'.rep _) hq⟩

/-! ### isinstance -/
inductive Ty where | non | bool | int | str | tuple | list | dict
  deriving DecidableEq
def Ty.name : Ty → String
  | .non => "NoneType" | .bool => "bool" | .int => "int" | .str => "str" | .tuple => "tuple" | .list => "list" | .dict => "dict"
def Ty.sub : Ty → Ty → Bool
  | .non, .non => true | .bool, .bool => true | .bool, .int => true | .int, .int => true | .str, .str => true | .tuple, .tuple => true | .list, .list => true | .dict, .dict => true
  | _, _ => false
theorem Ty.kit (a b : Ty) (hb : b ≠ .non) : kitB a.name b.name = some (Ty.sub a b) := by
  cases a <;> cases b <;> first | exact absurd rfl hb | decide +kernel
def tyD : D → Sto → Option Ty
  | .non, _ => some .non | .bl _, _ => some .bool | .int _, _ => some .int | .str _, _ => some .str | .tup _, _ => some .tuple | .con _, _ => some .list
  | .loc n, st => match st[n]? with
    | some (.lst _) => some .list
    | some (.dct _) => some .dict
    | some (.dtt _) => some .dict
    | some (.fdc _) => some .dict
    | _ => none
theorem tyD_ok {K : Frag} {α : Nat → Addr} {st : Sto} {H : Hp} {d : D} {v : V} {t : Ty} (L : Lk K ca α st H) (r : RV K α st.length H d v) (e : tyD d st = some t) : TyX K H v (.type t.name) := by
  cases r with
  | non => cases e; exact .base .non
  | bl b => cases e; exact .base (.bl b)
  | int i => cases e; exact .base (.int i)
  | str x => cases e; exact .base (.str x)
  | tup h r =>
    cases e
    rcases h with (h | ⟨o, h⟩) | ⟨o, its, n, h1, h2, _⟩
    · exact .base (.tup h)
    · exact .fTuple h
    · exact .kTuple h1 h2
  | con h r =>
    cases e
    rcases h with ⟨o, h⟩ | ⟨o, its, n, h1, h2, _⟩
    · exact .base (.frz h)
    · exact .kList h1 h2
  | loc hn =>
    simp only [tyD] at e
    split at e <;> try cases e
    · rename_i xs q
      obtain ⟨ho, h1, q1⟩ := L.at_ _ _ q
      cases q1
      exact .base (.lst h1)
    · rename_i xs q
      obtain ⟨ho, h1, q1⟩ := L.at_ _ _ q
      cases q1
      exact .base (.dK h1)
    · rename_i xs q
      obtain ⟨ho, h1, q1⟩ := L.at_ _ _ q
      cases q1
      exact .base (.dT h1)
    · rename_i xs q
      obtain ⟨ho, h1, q1⟩ := L.at_ _ _ q
      cases q1
      exact .fDict h1
def isiD (c : Ty) : D → Sto → R D := fun d st => match tyD d st with
  | some t => .ok (.bl (Ty.sub t c)) st
  | none => .bad
theorem qe_isi {t : Ty} {tn : Str} {p3 : Pos} (ht : t ≠ .non) (ha : QE X ca W a ea) (hg : Gl X "isinstance") (hm : X.mg "isinstance" = none) (hg2 : Gl X tn) (hm2 : X.mg tn = none) (hv : bootBuiltins tn = some (.type t.name))
    (hn : tn ≠ "__name__" := by decide) (hdb : (tn == ("__debug__" : Str)) = false := by decide)
    (hs : starEach (a :: [.Name tn p3]) X.env = (false, eval a X.env) :: starEach [.Name tn p3] X.env := by rfl) :
    QE X ca W (.Call (.Name "isinstance" p0) [a, .Name tn p3] [] pos) (cB1 (isiD t) ea) :=
  peW (pe_callB call_isi hg hm (by decide +kernel) (pa_cons ha (pa_cons (pe_bltn (v := .ty t.name) hg2 hm2 hv rfl hn hdb) pa_nil (by rfl)) hs) (by decide) (by decide) hs (by rfl)) fun σ H Q ⟨α, st, ρ, at0, p⟩ => tG_next at0 .refl p fun α1 st1 d v H1 a1 _ x1 r1 p1 => by
    unfold isiD at p1
    cases e : tyD d st1 with
    | none => rw [e] at p1; exact p1.elim
    | some t' =>
      rw [e] at p1
      exact ⟨v, .ty t.name, .type t'.name, .type t.name, Ty.sub t' t, rfl, .ty _, tyD_ok a1.lk r1 e, kit_ty (Ty.kit t' t ht), p1 α1 H1 _ x1 a1.lk (.bl _)⟩

/-! ### all, any, sum, sorted, min, max -/
def boolsD : List D → Option (List Bool)
  | [] => some []
  | .bl b :: r => (boolsD r).map (b :: ·)
  | _ :: _ => none
theorem boolsD_ok {K : Frag} {α : Nat → Addr} {N : Nat} {H : Hp} : ∀ {xs : List D} {vs : List V} {bs : List Bool}, RVs K α N H xs vs → boolsD xs = some bs → vs = bs.map V.bl
  | [], _, _, .nil, e => by simp only [boolsD, Option.some.injEq] at e; subst e; rfl
  | d :: xs, _, bs, .cons h r, e => by
    cases h <;> simp only [boolsD, reduceCtorEq] at e
    obtain ⟨cs, h1, h2⟩ := Option.map_eq_some_iff.mp e
    subst h2
    rw [boolsD_ok r h1]; rfl
def intsD : List D → Option (List Int)
  | [] => some []
  | .int b :: r => (intsD r).map (b :: ·)
  | _ :: _ => none
theorem intsD_ok {K : Frag} {α : Nat → Addr} {N : Nat} {H : Hp} : ∀ {xs : List D} {vs : List V} {bs : List Int}, RVs K α N H xs vs → intsD xs = some bs → vs = bs.map V.int
  | [], _, _, .nil, e => by simp only [intsD, Option.some.injEq] at e; subst e; rfl
  | d :: xs, _, bs, .cons h r, e => by
    cases h <;> simp only [intsD, reduceCtorEq] at e
    obtain ⟨cs, h1, h2⟩ := Option.map_eq_some_iff.mp e
    subst h2
    rw [intsD_ok r h1]; rfl
theorem ints_rvs {K : Frag} {α : Nat → Addr} {N : Nat} {H : Hp} : ∀ ns : List Int, RVs K α N H (ns.map D.int) (ns.map V.int)
  | [] => .nil
  | n :: ns => .cons (.int n) (ints_rvs ns)
/-- a rule for a call of one list -/
def ruleM {β : Type} (K : Frag) (ca : Nat → Addr) (rel : Rel β V) (f : List D → Sto → R β) (r : List V → Hp → VK → Prop) : Prop := ∀ α st α0 N0 H0 H W xs p vs (Q : VK), Lk K ca α st H → Xt K α0 N0 H0 α st.length H → H p = some (.lst vs) → RVs K α st.length H xs vs → Post K ca rel α0 N0 H0 W Q (f xs st) → r [.ref p] H Q
theorem qbM {β : Type} {rel : Rel β V} {f : List D → Sto → R β} {id : String} {e : EL} {r : List V → Hp → VK → Prop} (rule : ruleM X.K ca rel f r) (hc : CallR X (.builtin id) r) (ha : QM X ca W a e) (hg : Gl X x) (hm : X.mg x = none) (hv : bootBuiltins x = some (.builtin id)) (hn : x ≠ "__name__" := by decide) (hdb : (x == ("__debug__" : Str)) = false := by decide)
    (hs : starEach [a] X.env = (false, eval a X.env) :: starEach [] X.env := by rfl) : PE X (.Call (.Name x p0) [a] [] pos) (tG X.K ca rel W (cS1 f e)) :=
  peW (pe_callB hc hg hm hv (pa1 ha hs) hn hdb hs (by rfl)) fun σ H Q ⟨α, st, ρ, a, p⟩ => tG_next a .refl p fun α1 st1 d v H1 a1 _ x1 ⟨q, vs, e, h, r1⟩ p1 => by
    subst e
    exact rule _ _ _ _ _ _ _ _ _ _ _ a1.lk x1 h r1 p1
def allS : List D → Sto → R D := fun xs st => match boolsD xs with
  | some bs => .ok (.bl (bs.all id)) st
  | none => .bad
def anyS : List D → Sto → R D := fun xs st => match boolsD xs with
  | some bs => .ok (.bl (bs.any id)) st
  | none => .bad
def sumS : List D → Sto → R D := fun xs st => match intsD xs with
  | some ns => .ok (.int ns.sum) st
  | none => .bad
theorem qe_all {e : EL} (hc : X.calm = true) (ha : QM X ca W a e) (hg : Gl X "all") (hm : X.mg "all" = none) (hs : starEach [a] X.env = (false, eval a X.env) :: starEach [] X.env := by rfl) : QE X ca W (.Call (.Name "all" p0) [a] [] pos) (cS1 allS e) :=
  qbM (fun α st α0 N0 H0 H W xs p vs Q L xt h r q => by
    unfold allS at q
    cases e : boolsD xs with
    | none => rw [e] at q; exact q.elim
    | some bs =>
      rw [e] at q
      have ev := boolsD_ok r e
      subst ev
      exact ⟨p, bs, rfl, .inl (.inl h), q α H _ xt L (.bl _)⟩) (cr_all hc) ha hg hm (by decide +kernel) (by decide) (by decide) hs
theorem qe_any {e : EL} (hc : X.calm = true) (ha : QM X ca W a e) (hg : Gl X "any") (hm : X.mg "any" = none) (hs : starEach [a] X.env = (false, eval a X.env) :: starEach [] X.env := by rfl) : QE X ca W (.Call (.Name "any" p0) [a] [] pos) (cS1 anyS e) :=
  qbM (fun α st α0 N0 H0 H W xs p vs Q L xt h r q => by
    unfold anyS at q
    cases e : boolsD xs with
    | none => rw [e] at q; exact q.elim
    | some bs =>
      rw [e] at q
      have ev := boolsD_ok r e
      subst ev
      exact ⟨p, bs, rfl, .inl (.inl h), q α H _ xt L (.bl _)⟩) (cr_any hc) ha hg hm (by decide +kernel) (by decide) (by decide) hs
theorem qe_sum {e : EL} (hc : X.calm = true) (ha : QM X ca W a e) (hg : Gl X "sum") (hm : X.mg "sum" = none) (hs : starEach [a] X.env = (false, eval a X.env) :: starEach [] X.env := by rfl) : QE X ca W (.Call (.Name "sum" p0) [a] [] pos) (cS1 sumS e) :=
  qbM (fun α st α0 N0 H0 H W xs p vs Q L xt h r q => by
    unfold sumS at q
    cases e : intsD xs with
    | none => rw [e] at q; exact q.elim
    | some bs =>
      rw [e] at q
      have ev := intsD_ok r e
      subst ev
      exact ⟨p, bs, rfl, .inl (.inl h), q α H _ xt L (.int _)⟩) (cr_sum hc) ha hg hm (by decide +kernel) (by decide) (by decide) hs
/-- sorted ints -/
def sortI (ns : List Int) : List Int := ns.mergeSort fun a b => decide (a ≤ b)
theorem sortI_uniq {ns ms : List Int} (hp : ms.Perm ns) (hs : ms.Pairwise (· ≤ ·)) : ms = sortI ns := by
  have h1 : (sortI ns).Pairwise (fun a b => decide (a ≤ b) = true) := List.pairwise_mergeSort (le := fun a b => decide (a ≤ b)) (by intro a b c; simp only [decide_eq_true_eq]; omega) (by intro a b; simp only [Bool.or_eq_true, decide_eq_true_eq]; omega) ns
  have h1' : (sortI ns).Pairwise (· ≤ ·) := h1.imp fun h => of_decide_eq_true h
  have h2 : (sortI ns).Perm ns := List.mergeSort_perm ns _
  exact (hp.trans h2.symm).eq_of_pairwise (le := (· ≤ ·)) (fun a b _ _ h h' => Int.le_antisymm h h') hs h1'
def sortedS : List D → Sto → R (List D) := fun xs st => match intsD xs with
  | some ns => .ok ((sortI ns).map D.int) st
  | none => .bad
theorem ql_sorted {e : EL} (ha : QM X ca W a e) (hg : Gl X "sorted") (hm : X.mg "sorted" = none) (hs : starEach [a] X.env = (false, eval a X.env) :: starEach [] X.env := by rfl) : QL X ca W (.Call (.Name "sorted" p0) [a] [] pos) (cS1 sortedS e) :=
  qbM (rel := relL X.K) (fun α st α0 N0 H0 H W xs p vs Q L xt h r q => by
    unfold sortedS at q
    cases e : intsD xs with
    | none => rw [e] at q; exact q.elim
    | some ns =>
      rw [e] at q
      have ev := intsD_ok r e
      subst ev
      refine ⟨p, ns, rfl, .inl (.inl h), fun ms l hp hs hl => ?_⟩
      rw [sortI_uniq hp hs]
      exact fin_new q xt L (ints_rvs _) hl) cr_sortedI ha hg hm (by decide +kernel) (by decide) (by decide) hs
def maxI : List Int → Option Int
  | [] => none
  | n :: ns => some (ns.foldl max n)
def minI : List Int → Option Int
  | [] => none
  | n :: ns => some (ns.foldl min n)
theorem foldl_max_ge : ∀ (ns : List Int) (n : Int), n ≤ ns.foldl max n ∧ ∀ y ∈ ns, y ≤ ns.foldl max n
  | [], n => ⟨Int.le_refl _, fun y h => by simp at h⟩
  | m :: ns, n => by
    obtain ⟨h1, h2⟩ := foldl_max_ge ns (max n m)
    rw [List.foldl_cons]
    refine ⟨by omega, fun y h => ?_⟩
    rcases List.mem_cons.mp h with e | e
    · subst e; omega
    · exact h2 y e
theorem foldl_max_mem : ∀ (ns : List Int) (n : Int), ns.foldl max n = n ∨ ns.foldl max n ∈ ns
  | [], n => .inl rfl
  | m :: ns, n => by
    rw [List.foldl_cons]
    rcases foldl_max_mem ns (max n m) with h | h
    · rw [h]
      by_cases c : n ≤ m
      · right; rw [Int.max_eq_right c]; exact List.mem_cons_self
      · left; exact Int.max_eq_left (by omega)
    · exact .inr (List.mem_cons_of_mem _ h)
theorem foldl_min_le : ∀ (ns : List Int) (n : Int), ns.foldl min n ≤ n ∧ ∀ y ∈ ns, ns.foldl min n ≤ y
  | [], n => ⟨Int.le_refl _, fun y h => by simp at h⟩
  | m :: ns, n => by
    obtain ⟨h1, h2⟩ := foldl_min_le ns (min n m)
    rw [List.foldl_cons]
    refine ⟨by omega, fun y h => ?_⟩
    rcases List.mem_cons.mp h with e | e
    · subst e; omega
    · exact h2 y e
theorem foldl_min_mem : ∀ (ns : List Int) (n : Int), ns.foldl min n = n ∨ ns.foldl min n ∈ ns
  | [], n => .inl rfl
  | m :: ns, n => by
    rw [List.foldl_cons]
    rcases foldl_min_mem ns (min n m) with h | h
    · rw [h]
      by_cases c : n ≤ m
      · left; exact Int.min_eq_left c
      · right; rw [Int.min_eq_right (by omega)]; exact List.mem_cons_self
    · exact .inr (List.mem_cons_of_mem _ h)
def maxS : List D → Sto → R D := fun xs st => match (intsD xs).bind maxI with
  | some m => .ok (.int m) st
  | none => .bad
def minS : List D → Sto → R D := fun xs st => match (intsD xs).bind minI with
  | some m => .ok (.int m) st
  | none => .bad
theorem qe_max {e : EL} (hc : X.calm = true) (ha : QM X ca W a e) (hg : Gl X "max") (hm : X.mg "max" = none) (hs : starEach [a] X.env = (false, eval a X.env) :: starEach [] X.env := by rfl) : QE X ca W (.Call (.Name "max" p0) [a] [] pos) (cS1 maxS e) :=
  qbM (fun α st α0 N0 H0 H W xs p vs Q L xt h r q => by
    unfold maxS at q
    cases e : intsD xs with
    | none => rw [e] at q; exact q.elim
    | some ns =>
      rw [e] at q
      have ev := intsD_ok r e
      subst ev
      cases ns with
      | nil => exact q.elim
      | cons n ns =>
        refine ⟨p, n :: ns, rfl, .inl (.inl h), Nat.succ_pos _, fun m h1 h2 => ?_⟩
        have e1 : m = ns.foldl max n := by
          have g := foldl_max_ge ns n
          have hm1 := foldl_max_mem ns n
          have : ns.foldl max n ≤ m := by
            rcases hm1 with z | z
            · rw [z]; exact h2 n List.mem_cons_self
            · exact h2 _ (List.mem_cons_of_mem _ z)
          rcases List.mem_cons.mp h1 with z | z
          · subst z; omega
          · have := g.2 m z; omega
        subst e1
        exact q α H _ xt L (.int _)) (cr_max hc) ha hg hm (by decide +kernel) (by decide) (by decide) hs
theorem qe_min {e : EL} (hc : X.calm = true) (ha : QM X ca W a e) (hg : Gl X "min") (hm : X.mg "min" = none) (hs : starEach [a] X.env = (false, eval a X.env) :: starEach [] X.env := by rfl) : QE X ca W (.Call (.Name "min" p0) [a] [] pos) (cS1 minS e) :=
  qbM (fun α st α0 N0 H0 H W xs p vs Q L xt h r q => by
    unfold minS at q
    cases e : intsD xs with
    | none => rw [e] at q; exact q.elim
    | some ns =>
      rw [e] at q
      have ev := intsD_ok r e
      subst ev
      cases ns with
      | nil => exact q.elim
      | cons n ns =>
        refine ⟨p, n :: ns, rfl, .inl (.inl h), Nat.succ_pos _, fun m h1 h2 => ?_⟩
        have e1 : m = ns.foldl min n := by
          have g := foldl_min_le ns n
          have hm1 := foldl_min_mem ns n
          have : m ≤ ns.foldl min n := by
            rcases hm1 with z | z
            · rw [z]; exact h2 n List.mem_cons_self
            · exact h2 _ (List.mem_cons_of_mem _ z)
          rcases List.mem_cons.mp h1 with z | z
          · subst z; omega
          · have := g.2 m z; omega
        subst e1
        exact q α H _ xt L (.int _)) (cr_min hc) ha hg hm (by decide +kernel) (by decide) (by decide) hs
/-- max(a, b), min(a, b) -/
def max2D : D → D → Sto → R D
  | .int i, .int j, st => .ok (.int (max i j)) st
  | _, _, _ => .bad
def min2D : D → D → Sto → R D
  | .int i, .int j, st => .ok (.int (min i j)) st
  | _, _, _ => .bad
theorem qe_max2 (hc : X.calm = true) (ha : QE X ca W a ea) (hb : QE X ca W b eb) (hg : Gl X "max") (hm : X.mg "max" = none) (hs : starEach [a, b] X.env = (false, eval a X.env) :: starEach [b] X.env := by rfl) (hs2 : starEach [b] X.env = (false, eval b X.env) :: starEach [] X.env := by rfl)
    (hpl : (backTo pos (starEach [b] X.env)).any (·.1) = false := by rfl) : QE X ca W (.Call (.Name "max" p0) [a, b] [] pos) (cOp2 max2D ea eb) :=
  peW (pe_callB (call_max2 hc) hg hm (by decide +kernel) (pa_cons ha (pa1 hb hs2) hs) (by decide) (by decide) hs hpl) fun σ H Q ⟨α, st, ρ, at0, p⟩ => tG_next at0 .refl p fun α1 st1 d v H1 a1 _ x1 r1 p1 => tG_next a1 x1 p1 fun α2 st2 e u H2 a2 x2 xb r2 p2 => by
    cases r1 <;> cases r2 <;> try exact False.elim p2
    rename_i i j
    refine ⟨i, j, rfl, ?_⟩
    have e : (if j > i then j else i) = max i j := by split <;> omega
    rw [e]
    exact p2 α2 H2 _ xb a2.lk (.int _)
theorem qe_min2 (hc : X.calm = true) (ha : QE X ca W a ea) (hb : QE X ca W b eb) (hg : Gl X "min") (hm : X.mg "min" = none) (hs : starEach [a, b] X.env = (false, eval a X.env) :: starEach [b] X.env := by rfl) (hs2 : starEach [b] X.env = (false, eval b X.env) :: starEach [] X.env := by rfl)
    (hpl : (backTo pos (starEach [b] X.env)).any (·.1) = false := by rfl) : QE X ca W (.Call (.Name "min" p0) [a, b] [] pos) (cOp2 min2D ea eb) :=
  peW (pe_callB (call_min2 hc) hg hm (by decide +kernel) (pa_cons ha (pa1 hb hs2) hs) (by decide) (by decide) hs hpl) fun σ H Q ⟨α, st, ρ, at0, p⟩ => tG_next at0 .refl p fun α1 st1 d v H1 a1 _ x1 r1 p1 => tG_next a1 x1 p1 fun α2 st2 e u H2 a2 x2 xb r2 p2 => by
    cases r1 <;> cases r2 <;> try exact False.elim p2
    rename_i i j
    refine ⟨i, j, rfl, ?_⟩
    have e : (if j < i then j else i) = min i j := by split <;> omega
    rw [e]
    exact p2 α2 H2 _ xb a2.lk (.int _)
end
end PM

set_option Elab.async false
set_option linter.all false
set_option maxRecDepth 100000
set_option maxHeartbeats 4000000
/-! PM5: statements, loops, calls. -/
namespace PM
open PySem PySem.Spec PyProof.Rows L2

/-- how a statement ends -/
inductive F where
  | nx (ρ : Env) (st : Sto) | rt (d : D) (st : Sto) | bk (ρ : Env) (st : Sto) | ct (ρ : Env) (st : Sto) | exc (c : Nat) (fs : List (Str × D)) (ρ : Env) (st : Sto) | bad
abbrev S := Env → Sto → F
def FPost (K : Frag) (ca : Nat → Addr) (α : Nat → Addr) (N : Nat) (H : Hp) (W : WX) (E : Ends) : F → Prop
  | .nx ρ st => ∀ α' H' σ', Xt K α N H α' st.length H' → At K ca α' st H' ρ σ' → E.nx σ' H'
  | .bk ρ st => ∀ α' H' σ', Xt K α N H α' st.length H' → At K ca α' st H' ρ σ' → E.bk σ' H'
  | .ct ρ st => ∀ α' H' σ', Xt K α N H α' st.length H' → At K ca α' st H' ρ σ' → E.ct σ' H'
  | .rt d st => ∀ α' H' v, Xt K α N H α' st.length H' → Lk K ca α' st H' → RV K α' st.length H' d v → E.rt v H'
  | .exc c fs ρ st => ∀ α' H' σ' dd, Xt K α N H α' st.length H' → At K ca α' st H' ρ σ' → XD K α' st.length H' fs dd → W (.ref (ca c)) dd σ' H'
  | .bad => False
def tF (K : Frag) (ca : Nat → Addr) (W : WX) (s : S) : TS := fun E σ H => ∃ α st ρ, At K ca α st H ρ σ ∧ FPost K ca α st.length H W E (s ρ st)
def QF (X : Cx) (ca : Nat → Addr) (W : WX) (x : Stmt) (s : S) : Prop := PS X x (tF X.K ca W s)
def QFs (X : Cx) (ca : Nat → Addr) (W : WX) (x : List Stmt) (s : S) : Prop := PSs X x (tF X.K ca W s)
theorem psW {X : Cx} {x : Stmt} {t t' : TS} (p : PS X x t) (h : ∀ E σ H, t' E σ H → t E σ H) : PS X x t' := ⟨fun pins s σ H E I q => p.run pins s σ H E I (h E σ H q)⟩
theorem pssW {X : Cx} {x : List Stmt} {t t' : TS} (p : PSs X x t) (h : ∀ E σ H, t' E σ H → t E σ H) : PSs X x t' := ⟨fun pins s σ H E I q => p.run pins s σ H E I (h E σ H q)⟩
section
variable {K : Frag} {ca : Nat → Addr} {α α' : Nat → Addr} {N N' : Nat} {H H' : Hp} {W : WX} {E : Ends} {r : F}
theorem FPost.later (x : Xt K α N H α' N' H') (h : FPost K ca α N H W E r) : FPost K ca α' N' H' W E r := by
  cases r with
  | nx ρ st => exact fun a2 H2 s2 x2 A2 => h a2 H2 s2 (x.trans x2) A2
  | bk ρ st => exact fun a2 H2 s2 x2 A2 => h a2 H2 s2 (x.trans x2) A2
  | ct ρ st => exact fun a2 H2 s2 x2 A2 => h a2 H2 s2 (x.trans x2) A2
  | rt d st => exact fun a2 H2 v x2 L2 r2 => h a2 H2 v (x.trans x2) L2 r2
  | exc c fs ρ st => exact fun a2 H2 s2 dd x2 A2 r2 => h a2 H2 s2 dd (x.trans x2) A2 r2
  | bad => exact h
end
/-- an expression, then what follows -/
def fE {β : Type} (r : R β) (ρ : Env) (k : β → Sto → F) : F := match r with
  | .ok b st => k b st
  | .exc c fs st => .exc c fs ρ st
  | .bad => .bad
@[simp] theorem fE_ok {β : Type} (b : β) (st : Sto) (ρ : Env) (k : β → Sto → F) : fE (.ok b st) ρ k = k b st := rfl
@[simp] theorem fE_exc {β : Type} (c : Nat) (fs : List (Str × D)) (st : Sto) (ρ : Env) (k : β → Sto → F) : fE (.exc c fs st : R β) ρ k = .exc c fs ρ st := rfl
@[simp] theorem fE_bad {β : Type} (ρ : Env) (k : β → Sto → F) : fE (.bad : R β) ρ k = .bad := rfl
theorem tF_next {K : Frag} {ca : Nat → Addr} {W : WX} {β γ : Type} {rel : Rel β γ} {e : Env → Sto → R β} {k : β → Sto → F} {σ : L2.St} {H0 H1 : Hp} {E : Ends} {T : γ → Hp → Prop} {α α0 : Nat → Addr} {st : Sto} {N0 : Nat} {ρ : Env}
    (a : At K ca α st H1 ρ σ) (x : Xt K α0 N0 H0 α st.length H1) (p : FPost K ca α0 N0 H0 W E (fE (e ρ st) ρ k))
    (go : ∀ α2 st2 b g H2, At K ca α2 st2 H2 ρ σ → Xt K α st.length H1 α2 st2.length H2 → Xt K α0 N0 H0 α2 st2.length H2 → rel H1 α2 st2.length H2 b g → FPost K ca α0 N0 H0 W E (k b st2) → T g H2) :
    tG K ca rel W e σ H1 T := by
  refine ⟨α, st, ρ, a, ?_⟩
  revert p
  cases e ρ st with
  | ok b st1 => exact fun p α1 H2 g x2 L r => go α1 st1 b g H2 (a.later x2 L) x2 (x.trans x2) r p
  | exc c fs st1 => exact fun p α1 H2 dd x2 L r => p α1 H2 σ dd (x.trans x2) (a.later x2 L) r
  | bad => exact fun p => p

/-- what a body's proof carries: what is let out, and how -/
structure Ok (X : Cx) (W : WX) : Prop where
  tk : Takes X W
  hp : PassesOwn (model X.prog X.w) X.A X.env X.xe
  calm : X.calm = true

section
variable {X : Cx} {ca : Nat → Addr} {W : WX} {a b c : Expr} {ea eb ec : E} {pos : Pos} {es : List Expr} {st st1 : Stmt} {sts sts2 : List Stmt} {s1 s2 : S} {tc : ET}
def sNext : S := fun ρ st => .nx ρ st
def sSeq (a b : S) : S := fun ρ st => match a ρ st with
  | .nx ρ' st' => b ρ' st'
  | .rt d st' => .rt d st'
  | .bk ρ' st' => .bk ρ' st'
  | .ct ρ' st' => .ct ρ' st'
  | .exc c fs ρ' st' => .exc c fs ρ' st'
  | .bad => .bad
theorem qf_nil : QFs X ca W [] sNext := pssW pss_nil fun E σ H ⟨α, st, ρ, a, p⟩ => p α H σ .refl a
theorem qf_cons (h1 : QF X ca W st s1) (h2 : QFs X ca W sts s2) : QFs X ca W (st :: sts) (sSeq s1 s2) :=
  pssW (pss_cons h1 h2) fun E σ H ⟨α, st, ρ, a, p⟩ => by
    refine ⟨α, st, ρ, a, ?_⟩
    unfold sSeq at p
    revert p
    cases s1 ρ st with
    | nx ρ' st' => exact fun p α1 H1 σ1 x1 A1 => ⟨α1, st', ρ', A1, p.later x1⟩
    | rt d st' => exact fun p => p
    | bk ρ' st' => exact fun p => p
    | ct ρ' st' => exact fun p => p
    | exc c fs ρ' st' => exact fun p => p
    | bad => exact fun p => p
theorem qf_one (h1 : QF X ca W st s1) : QFs X ca W [st] s1 := pss_one h1
theorem qf_pass : QF X ca W (.Pass pos) sNext := psW ps_pass fun E σ H ⟨α, st, ρ, a, p⟩ => p α H σ .refl a
def sBreak : S := fun ρ st => .bk ρ st
def sCont : S := fun ρ st => .ct ρ st
theorem qf_break : QF X ca W (.Break pos) sBreak := psW ps_break fun E σ H ⟨α, st, ρ, a, p⟩ => p α H σ .refl a
theorem qf_cont : QF X ca W (.Continue pos) sCont := psW ps_continue fun E σ H ⟨α, st, ρ, a, p⟩ => p α H σ .refl a
def sExp (e : E) : S := fun ρ st => fE (e ρ st) ρ fun _ st => .nx ρ st
theorem qf_exp (he : QE X ca W a ea) (hs : swapsWith a none pos.line X.env = pure false := by rfl) : QF X ca W (.Expr a pos) (sExp ea) :=
  psW (ps_expr he hs) fun E σ H ⟨α, st, ρ, at0, p⟩ => tF_next at0 .refl p fun α1 st1 d v H1 a1 _ x1 r1 p1 => p1 α1 H1 σ x1 a1
def sRet (e : E) : S := fun ρ st => fE (e ρ st) ρ fun d st => .rt d st
theorem qf_ret (he : QE X ca W a ea) : QF X ca W (.Return (some a) pos) (sRet ea) :=
  psW (ps_ret he) fun E σ H ⟨α, st, ρ, at0, p⟩ => tF_next at0 .refl p fun α1 st1 d v H1 a1 _ x1 r1 p1 => p1 α1 H1 v x1 a1.lk r1
def sRetN : S := fun _ st => .rt .non st
theorem qf_retN : QF X ca W (.Return none pos) sRetN := psW ps_retN fun E σ H ⟨α, st, ρ, a, p⟩ => p α H .non .refl a.lk .non
def sIf (t : ET) (a b : S) : S := fun ρ st => fE (t ρ st) ρ fun k st => match k with
  | true => a ρ st
  | false => b ρ st
theorem qf_if (ht : QT X ca W c tc) (ha : QFs X ca W sts s1) (hb : QFs X ca W sts2 s2) : QF X ca W (.If c sts sts2 pos) (sIf tc s1 s2) :=
  psW (ps_if ht ha hb) fun E σ H ⟨α, st, ρ, at0, p⟩ => tF_next at0 .refl p fun α1 st1 k k' H1 a1 _ x1 r1 p1 => by
    cases r1
    cases k with
    | true => rw [if_pos rfl]; exact ⟨α1, st1, ρ, a1, p1.later x1⟩
    | false => rw [if_neg Bool.false_ne_true]; exact ⟨α1, st1, ρ, a1, p1.later x1⟩

/-! ### targets -/
/-- a target: names are set -/
abbrev G := D → Env → Option Env
def tGt (K : Frag) (ca : Nat → Addr) (g : G) : TG := fun v σ H Q => ∃ α st d ρ ρ', At K ca α st H ρ σ ∧ RV K α st.length H d v ∧ g d ρ = some ρ' ∧ ∀ σ', At K ca α st H ρ' σ' → Q σ' H
def QG (X : Cx) (ca : Nat → Addr) (x : Expr) (g : G) : Prop := PG X x (tGt X.K ca g)
theorem pgW {X : Cx} {x : Expr} {t t' : TG} (p : PG X x t) (h : ∀ v σ H Q, t' v σ H Q → t v σ H Q) : PG X x t' := ⟨fun pins s σ H v u Q I r q => p.run pins s σ H v u Q I r (h v σ H Q q)⟩
def gN (i : Nat) : G := fun d ρ => some (ρ.set i (some d))
theorem qg_name (i : Nat) {x : Str} (hN : X.N.Nodup) (hi : X.N[i]? = some x := by rfl) (hx : Loc X.env.scope x := by first | exact Or.inl rfl | exact Or.inr rfl) (hf : X.fn x = true ∨ X.env.scope.names.lookup x = some .local := by first | exact .inl rfl | exact .inr rfl) : QG X ca (.Name x pos) (gN i) :=
  pgW (pg_name hN hi hx hf) fun v σ H Q ⟨α, st, d, ρ, ρ', A, r, e, q⟩ => by
    cases e
    exact q _ ⟨A.lk, A.re.set r i⟩
/-- several targets -/
abbrev Gs := List D → Env → Option Env
def tGts (K : Frag) (ca : Nat → Addr) (g : Gs) : TGs := fun vs σ H Q => ∃ α st ds ρ ρ', At K ca α st H ρ σ ∧ RVs K α st.length H ds vs ∧ g ds ρ = some ρ' ∧ ∀ σ', At K ca α st H ρ' σ' → Q σ' H
def QGs (X : Cx) (ca : Nat → Addr) (x : List Expr) (g : Gs) : Prop := PGs X x (tGts X.K ca g)
theorem pgsW {X : Cx} {x : List Expr} {t t' : TGs} (p : PGs X x t) (h : ∀ v σ H Q, t' v σ H Q → t v σ H Q) : PGs X x t' := ⟨fun pins s σ H v u Q I r q => p.run pins s σ H v u Q I r (h v σ H Q q)⟩
def gsNil : Gs := fun ds ρ => match ds with
  | [] => some ρ
  | _ => none
def gsCons (g : G) (gs : Gs) : Gs := fun ds ρ => match ds with
  | d :: r => (g d ρ).bind fun ρ1 => gs r ρ1
  | [] => none
theorem qgs_nil : QGs X ca [] gsNil := pgsW pgs_nil fun vs σ H Q ⟨α, st, ds, ρ, ρ', A, r, e, q⟩ => by
  cases r with
  | nil => cases e; exact ⟨rfl, q _ A⟩
  | cons _ _ => cases e
theorem qgs_cons {g : G} {gs : Gs} (h1 : QG X ca a g) (h2 : QGs X ca es gs) (hs : (assignEach (a :: es) X.env).map (·.2) = assign a X.env :: (assignEach es X.env).map (·.2) := by rfl) : QGs X ca (a :: es) (gsCons g gs) :=
  pgsW (pgs_cons h1 h2 hs) fun vs σ H Q ⟨α, st, ds, ρ, ρ', A, r, e, q⟩ => by
    cases r with
    | nil => cases e
    | cons r rr =>
      obtain ⟨ρ1, e1, e2⟩ := Option.bind_eq_some_iff.mp e
      exact ⟨_, _, rfl, α, st, _, ρ, ρ1, A, r, e1, fun σ1 A1 => ⟨α, st, _, ρ1, ρ', A1, rr, e2, q⟩⟩
def gT (n : Nat) (gs : Gs) : G := fun d ρ => match d with
  | .tup xs => if xs.length = n then gs xs ρ else none
  | _ => none
theorem qg_tup {gs : Gs} {k n : Nat} (hc : X.calm = true) (h : QGs X ca es gs) (hn : (assignEach es X.env).length = n := by rfl) (hst : (assignEach es X.env).findIdx? (·.1) = none := by rfl) : QG X ca (.Tuple es k pos) (gT n gs) :=
  pgW (pg_tup hc h hn hst) fun v σ H Q ⟨α, st, d, ρ, ρ', A, r, e, q⟩ => by
    cases r <;> try cases e
    rename_i h1 r1 _
    simp only [gT] at e
    split at e <;> try cases e
    rename_i hl
    exact ⟨_, _, rfl, h1, by rw [← r1.length]; exact hl, α, st, _, ρ, ρ', A, r1, e, q⟩
/-- target = e -/
def sAsg (e : E) (g : G) : S := fun ρ st => fE (e ρ st) ρ fun d st => match g d ρ with
  | some ρ' => .nx ρ' st
  | none => .bad
theorem qf_asg {tg : Expr} {g : G} (he : QE X ca W a ea) (hg : QG X ca tg g) (hs : swapsWithSole [tg] a pos.line X.env = pure false := by rfl) (hw : swappedStores [tg] a X.env = pure none := by rfl)
    (h1 : (assignEach [tg] X.env).map (·.2) = [assign tg X.env] := by rfl) : QF X ca W (.Assign [tg] a pos) (sAsg ea g) :=
  psW (ps_asg he hg hs hw h1) fun E σ H ⟨α, st, ρ, at0, p⟩ => tF_next at0 .refl p fun α1 st1 d v H1 a1 _ x1 r1 p1 => by
    cases e : g d ρ with
    | none => rw [e] at p1; exact p1.elim
    | some ρ' =>
      rw [e] at p1
      exact ⟨α1, st1, d, ρ, ρ', a1, r1, e, fun σ' A' => p1 α1 H1 σ' x1 A'⟩
def sSet (i : Nat) (e : E) : S := fun ρ st => fE (e ρ st) ρ fun d st => .nx (ρ.set i (some d)) st
theorem qf_set (i : Nat) {x : Str} {pos' : Pos} (hN : X.N.Nodup) (he : QE X ca W a ea) (hi : X.N[i]? = some x := by rfl) (hx : Loc X.env.scope x := by first | exact Or.inl rfl | exact Or.inr rfl) (hs : swapsWith a (some (.Name x pos')) pos.line X.env = pure false := by rfl) (hf : X.fn x = true ∨ X.env.scope.names.lookup x = some .local := by first | exact .inl rfl | exact .inr rfl) :
    QF X ca W (.Assign [.Name x pos'] a pos) (sSet i ea) :=
  psW (ps_set hN hi hx he hs hf) fun E σ H ⟨α, st, ρ, at0, p⟩ => tF_next at0 .refl p fun α1 st1 d v H1 a1 _ x1 r1 p1 => p1 α1 H1 _ x1 ⟨a1.lk, a1.re.set r1 i⟩
/-- a, b = e1, e2 (two names) -/
def sPar (i j : Nat) (es : List E) : S := fun ρ st => fE (cArgs es ρ st) ρ fun ds st => match ds with
  | [d, e] => .nx ((ρ.set i (some d)).set j (some e)) st
  | _ => .bad
theorem qf_par (i j : Nat) {x y : Str} {ees : List E} {px py pt : Pos} {kt k2 pt2} (hc : X.calm = true) (hN : X.N.Nodup) (ha : QA X ca W [a, b] (cArgs ees))
    (hw : swappedStores [.Tuple [.Name x px, .Name y py] kt pt] (.Tuple [a, b] k2 pt2) X.env = pure (some [x, y])) (hi : X.N[i]? = some x := by rfl) (hj : X.N[j]? = some y := by rfl) (hij : i ≠ j := by decide)
    (hx : X.env.scope.names.lookup x = some .local := by rfl) (hy : X.env.scope.names.lookup y = some .local := by rfl)
    (hs : swapsWithSole [.Tuple [.Name x px, .Name y py] kt pt] (.Tuple [a, b] k2 pt2) pos.line X.env = pure false := by rfl) :
    QF X ca W (.Assign [.Tuple [.Name x px, .Name y py] kt pt] (.Tuple [a, b] k2 pt2) pos) (sPar i j ees) :=
  psW (ps_par hc hN hi hj hij hx hy ha hw hs) fun E σ H ⟨α, st, ρ, at0, p⟩ => tF_next at0 .refl p fun α1 st1 ds vs H1 a1 _ x1 r1 p1 => by
    cases r1 with
    | nil => exact p1.elim
    | cons q1 r1 =>
      cases r1 with
      | nil => exact p1.elim
      | cons q2 r1 =>
        cases r1 with
        | nil => exact ⟨_, _, rfl, p1 α1 H1 _ x1 ⟨a1.lk, (a1.re.set q1 i).set q2 j⟩⟩
        | cons _ _ => exact p1.elim
/-- name op= e -/
def sAug (i : Nat) (f : D → D → Sto → R D) (e : E) : S := fun ρ st => match ρ[i]? with
  | some (some x) => fE (e ρ st) ρ fun y st => fE (f x y st) ρ fun z st => .nx (ρ.set i (some z)) st
  | _ => .bad
theorem fE_bind {β γ : Type} (r : R β) (f : β → Sto → R γ) (ρ : Env) (k : γ → Sto → F) : fE (r.bind f) ρ k = fE r ρ fun b st => fE (f b st) ρ k := by cases r <;> rfl
theorem qf_aug (i : Nat) {x : Str} {op : Operator} {f : D → D → Sto → R D} {pos' : Pos} (hN : X.N.Nodup) (hf : OpR X (inplaceOp op) (rD2 X.K ca f)) (he : QE X ca W a ea) (hi : X.N[i]? = some x := by rfl) (hx : Loc X.env.scope x := by first | exact Or.inl rfl | exact Or.inr rfl) (hl : X.fn x = true ∨ X.env.scope.names.lookup x = some .local := by first | exact .inl rfl | exact .inr rfl)
    (hb : ∀ x y st, (∃ z, f x y st = .ok z st) ∨ f x y st = .bad := by intro x y st; cases x <;> cases y <;> first | exact .inr rfl | exact .inl ⟨_, rfl⟩) :
    QF X ca W (.AugAssign (.Name x pos') op a pos) (sAug i f ea) :=
  psW (ps_aug (ti := rD2 X.K ca f) hN hi hx he hf hl) fun E σ H ⟨α, st, ρ, at0, p⟩ => by
    unfold sAug at p
    split at p <;> try exact p.elim
    rename_i d e
    obtain ⟨v, h1, h2⟩ := at0.re.get e
    refine ⟨v, h1, tF_next at0 .refl p fun α1 st1 y w H1 a1 x1 _ r1 p1 => ?_⟩
    refine ⟨α1, st1, α1, st1.length, H1, d, y, fun _ _ _ => False, a1.lk, .refl, h2.mono x1.toGr, r1, ?_⟩
    rcases hb d y st1 with ⟨z, e⟩ | e
    · rw [e] at p1 ⊢
      exact fun α2 H2 g x2 L2 r2 => p1 α2 H2 _ (x1.trans x2) ⟨L2, (a1.re.mono x2.toGr).set r2 i⟩
    · rw [e] at p1
      exact p1.elim
def iaddD : D → D → Sto → R D
  | .int i, .int j, st => .ok (.int (i + j)) st
  | _, _, _ => .bad
def isubD : D → D → Sto → R D
  | .int i, .int j, st => .ok (.int (i - j)) st
  | _, _, _ => .bad
theorem d_iadd : OpR X (inplaceOp .Add) (rD2 X.K ca iaddD) := by
  intro pins s σ H x y v u Q I rx ry ⟨α, st, α0, N0, H0, dx, dy, W, L, xt, r1, r2, p⟩
  cases r1 <;> cases r2 <;> try exact False.elim p
  exact iop_add pins s σ H _ _ v u Q I rx ry ⟨_, _, rfl, rfl, p α H _ xt L (.int _)⟩
theorem d_isub : OpR X (inplaceOp .Sub) (rD2 X.K ca isubD) := by
  intro pins s σ H x y v u Q I rx ry ⟨α, st, α0, N0, H0, dx, dy, W, L, xt, r1, r2, p⟩
  cases r1 <;> cases r2 <;> try exact False.elim p
  exact iop_sub pins s σ H _ _ v u Q I rx ry ⟨_, _, rfl, rfl, p α H _ xt L (.int _)⟩

/-! ### fields -/
/-- o.f = e -/
def sFldD (cs : List Nat) (f : Str) (o e : E) : S := fun ρ st => fE (e ρ st) ρ fun d st => fE (o ρ st) ρ fun x st => match x with
  | .loc n => match st[n]? with
    | some (.ins c fs) => if c ∈ cs ∧ fs.length < 1000 then .nx ρ (st.set n (.ins c (putFD f d fs))) else .bad
    | _ => .bad
  | _ => .bad
theorem qf_fld {cs : List Nat} {f : Str} {o : Expr} {eo : E} {tpos : Pos} (hc : Flds X ca cs f) (ho : QE X ca W o eo) (he : QE X ca W a ea) (hs : swapsWith a (some (.Attribute o f tpos)) pos.line X.env = pure false := by rfl) :
    QF X ca W (.Assign [.Attribute o f tpos] a pos) (sFldD cs f eo ea) :=
  psW (ps_fld ho he hs) fun E σ H ⟨α, st, ρ, at0, p⟩ => tF_next at0 .refl p fun α1 st1 d v H1 a1 _ x1 r1 p1 => tF_next a1 x1 p1 fun α2 st2 y u H2 a2 x2 xb r2 p2 => by
    have r1' := RV.mono x2.toGr r1
    cases r2 <;> try exact False.elim p2
    dsimp only at p2
    split at p2 <;> try exact p2.elim
    rename_i c fs e
    split at p2 <;> try exact p2.elim
    rename_i hcs
    obtain ⟨dx, gs, h1, q1⟩ := lk_ins a2.lk e
    obtain ⟨k1, k2⟩ := hc c hcs.1
    obtain ⟨L2, xw⟩ := a2.lk.write e h1 (fun _ z => by cases z) (fun _ _ z => by cases z) (.ins (dx := dx) (q1.putF f r1'))
    refine ⟨_, _, _, _, rfl, h1, k1, k2, by rw [← q1.length]; exact hcs.2, p2 _ _ σ (xb.trans xw) (a2.later xw L2)⟩
/-- o.f op= e -/
def sFldAugD (cs : List Nat) (f : Str) (g : D → D → Sto → R D) (o e : E) : S := fun ρ st => fE (o ρ st) ρ fun x st => match x with
  | .loc n => match st[n]? with
    | some (.ins c fs) => if c ∈ cs then match fs.lookup f with
      | some v => fE (e ρ st) ρ fun y st => fE (g v y st) ρ fun z st => match st[n]? with
        | some (.ins c' fs') => if c' = c ∧ fs'.length < 1000 then .nx ρ (st.set n (.ins c (putFD f z fs'))) else .bad
        | _ => .bad
      | none => .bad else .bad
    | _ => .bad
  | _ => .bad
theorem qf_fldaug {cs : List Nat} {f : Str} {o : Expr} {eo : E} {tpos : Pos} {op : Operator} {g : D → D → Sto → R D} (hc : Flds X ca cs f) (hg : InOp X op (rD2 X.K ca g)) (ho : QE X ca W o eo) (he : QE X ca W a ea)
    (hb : ∀ x y st, (∃ z, g x y st = .ok z st) ∨ g x y st = .bad := by intro x y st; cases x <;> cases y <;> first | exact .inr rfl | exact .inl ⟨_, rfl⟩) : QF X ca W (.AugAssign (.Attribute o f tpos) op a pos) (sFldAugD cs f g eo ea) :=
  psW (ps_fldaug ho he hg) fun E σ H ⟨α, st, ρ, at0, p⟩ => by
    refine tF_next (rel := relV X.K) at0 .refl p fun α1 st1 x v H1 a1 _ x1 r1 p1 => ?_
    cases r1 <;> try exact False.elim p1
    rename_i n hn
    dsimp only at p1
    split at p1 <;> try exact p1.elim
    rename_i c fs e
    split at p1 <;> try exact p1.elim
    rename_i hcs
    obtain ⟨dx, gs, h1, q1⟩ := lk_ins a1.lk e
    obtain ⟨k1, k2⟩ := hc c hcs
    rcases q1.fld f with ⟨e1, _⟩ | ⟨d, y2, e1, e2, r2⟩
    · rw [e1] at p1; exact p1.elim
    · rw [e1] at p1
      refine ⟨_, _, _, _, _, rfl, h1, k1, k2, e2, tF_next (rel := relV X.K) a1 x1 p1 fun α2 st2 y u H2 a2 x2 xb r3 p2 => ?_⟩
      refine ⟨α2, st2, α2, st2.length, H2, d, y, fun _ _ _ => False, a2.lk, .refl, r2.mono x2.toGr, r3, ?_⟩
      rcases hb d y st2 with ⟨z, e⟩ | e
      · rw [e] at p2 ⊢
        simp only [fE_ok] at p2
        intro α3 H3 zv x3 L3 r4
        have a3 := a2.later x3 L3
        have xb3 := xb.trans x3
        split at p2 <;> try exact p2.elim
        rename_i c' fs' e'
        split at p2 <;> try exact p2.elim
        rename_i hcs'
        obtain ⟨dx', gs', h1', q1'⟩ := lk_ins a3.lk e'
        obtain ⟨rfl, hz⟩ := hcs'
        obtain ⟨L4, xw⟩ := a3.lk.write e' h1' (fun _ z => by cases z) (fun _ _ z => by cases z) (.ins (dx := dx') (q1'.putF f r4))
        have ea' : α3 n = α1 n := (x2.trans x3).ag n hn
        rw [ea'] at h1' L4 xw
        exact ⟨dx', gs', h1', by rw [← q1'.length]; exact hz, p2 _ _ σ (xb3.trans xw) (a3.later xw L4)⟩
      · rw [e] at p2
        exact p2.elim
theorem in_isub : InOp X .Sub (rD2 X.K ca isubD) := fun pins s σ H x y u v Q I rx ry h => d_isub pins s σ H x y u v Q I rx ry h
theorem in_iadd : InOp X .Add (rD2 X.K ca iaddD) := fun pins s σ H x y u v Q I rx ry h => d_iadd pins s σ H x y u v Q I rx ry h

/-! ### o[i] = e, del d[k] -/
def setD (o i v : D) (st : Sto) : Option Sto := match o with
  | .loc n => match st[n]? with
    | some (.lst xs) => match i with
      | .int k => (ixN xs.length k).map fun j => st.set n (.lst (xs.set j v))
      | _ => none
    | some (.dct kvs) => match keyD i with
      | some k => if kvs.length < sizeLine then some (st.set n (.dct (putD kvs k v))) else none
      | none => none
    | _ => none
  | _ => none
def rSetA (K : Frag) (ca : Nat → Addr) : TSet := fun o i v H Q => ∃ α st do_ di dv st', Lk K ca α st H ∧ RV K α st.length H do_ o ∧ RV K α st.length H di i ∧ RV K α st.length H dv v ∧ setD do_ di dv st = some st' ∧
  ∀ H', Lk K ca α st' H' → Xt K α st.length H α st'.length H' → Q H'
theorem set_any (hu : X.A.units + 1 < cLine) : PSet X (rSetA X.K ca) := by
  intro pins s σ H o i v ov iv u Q I ro ri rv ⟨α, st, do_, di, dv, st', L, r1, r2, r3, e, q⟩
  cases r1 <;> try cases e
  rename_i n hn
  simp only [setD] at e
  split at e <;> try cases e
  · rename_i xs q1
    obtain ⟨vs, h1, r4⟩ := lk_lst L q1
    cases r2 <;> try cases e
    rename_i k
    dsimp only at e
    obtain ⟨j, e1, e2⟩ := Option.map_eq_some_iff.mp e
    subst e2
    obtain ⟨L2, x2⟩ := L.write q1 h1 (fun _ z => by cases z) (fun _ _ z => by cases z) (.lst (r4.set r3 j))
    refine set_list pins s σ H _ _ v ov iv u Q I ro ri rv ⟨_, _, _, j, rfl, rfl, h1, by rw [← r4.length]; exact e1, q _ L2 x2⟩
  · rename_i kvs q1
    obtain ⟨ho, h1, r4⟩ := L.at_ _ _ q1
    cases r4 with
    | dct r4 =>
      split at e <;> try cases e
      rename_i k ek
      split at e <;> try cases e
      rename_i hz
      obtain ⟨L2, x2⟩ := L.write q1 h1 (fun _ z => by cases z) (fun _ _ z => by cases z) (.dct (r4.put k r3))
      have ei := keyD_ok r2 ek
      subst ei
      cases ro
      exact d_setItem hu I (DPut.k (k := k) h1 (by rw [← r4.length]; exact hz)) ri rv fun s' I' => ⟨_, I', q _ L2 x2⟩
def sSub (o i e : E) : S := fun ρ st => fE (e ρ st) ρ fun d st => fE (o ρ st) ρ fun x st => fE (i ρ st) ρ fun y st => match setD x y d st with
  | some st' => .nx ρ st'
  | none => .bad
theorem qf_sub {o i : Expr} {eo ei : PM.E} {tpos : Pos} (hu : X.A.units + 1 < cLine) (ho : QE X ca W o eo) (hi : QE X ca W i ei) (he : QE X ca W a ea)
    (ha : ∀ v, assign (.Subscript o i tpos) X.env v = (do
      let ov ← holding [v] (eval o X.env)
      let iv ← holding [v, ov] (eval i X.env)
      standAt tpos
      holding [v, ov, iv] (setItem ov iv v)
      release [v, ov, iv] []) := by intro _; rfl)
    (hs : swapsWithSole [.Subscript o i tpos] a pos.line X.env = pure false := by rfl) (hw : swappedStores [.Subscript o i tpos] a X.env = pure none := by rfl)
    (h1 : (assignEach [.Subscript o i tpos] X.env).map (·.2) = [assign (.Subscript o i tpos) X.env] := by rfl) : QF X ca W (.Assign [.Subscript o i tpos] a pos) (sSub eo ei ea) :=
  psW (ps_asg he (pg_sub ho hi (set_any hu) ha) hs hw h1) fun E σ H ⟨α, st, ρ, at0, p⟩ => tF_next (rel := relV X.K) at0 .refl p fun α1 st1 d v H1 a1 _ x1 r1 p1 => tF_next (rel := relV X.K) a1 x1 p1 fun α2 st2 x u H2 a2 x2 xb2 r2 p2 => tF_next (rel := relV X.K) a2 xb2 p2 fun α3 st3 y w H3 a3 x3 xb3 r3 p3 => by
    cases e : setD x y d st3 with
    | none => rw [e] at p3; exact p3.elim
    | some st' =>
      rw [e] at p3
      exact ⟨α3, st3, x, y, d, st', a3.lk, r2.mono x3.toGr, r3, r1.mono (x2.trans x3).toGr, e, fun H' L' x' => p3 α3 H' σ (xb3.trans x') (a3.later x' L')⟩
def delD (o i : D) (st : Sto) : Option Sto := match o with
  | .loc n => match st[n]? with
    | some (.dct kvs) => match keyD i with
      | some k => if (valD kvs k).isSome then some (st.set n (.dct (dropD kvs k))) else none
      | none => none
    | _ => none
  | _ => none
def sDel (o i : E) : S := fun ρ st => fE (o ρ st) ρ fun x st => fE (i ρ st) ρ fun y st => match delD x y st with
  | some st' => .nx ρ st'
  | none => .bad
theorem qf_del {o i : Expr} {eo ei : PM.E} {tpos : Pos} (ho : QE X ca W o eo) (hi : QE X ca W i ei) : QF X ca W (.Delete [.Subscript o i tpos] pos) (sDel eo ei) :=
  psW (ps_ddel ho hi) fun E σ H ⟨α, st, ρ, at0, p⟩ => tF_next (rel := relV X.K) at0 .refl p fun α1 st1 d v H1 a1 _ x1 r1 p1 => tF_next (rel := relV X.K) a1 x1 p1 fun α2 st2 x u H2 a2 x2 xb2 r2 p2 => by
    have r1' := RV.mono x2.toGr r1
    cases r1' <;> try exact False.elim p2
    rename_i n hn
    simp only [delD] at p2
    split at p2 <;> try exact p2.elim
    rename_i st' e
    split at e <;> try cases e
    rename_i kvs q1
    split at e <;> try cases e
    rename_i k ek
    split at e <;> try cases e
    rename_i hk
    obtain ⟨ho, h1, r4⟩ := a2.lk.at_ _ _ q1
    cases r4 with
    | dct r4 =>
      obtain ⟨L3, x3⟩ := a2.lk.write q1 h1 (fun _ z => by cases z) (fun _ _ z => by cases z) (.dct (r4.drop k))
      have ei := keyD_ok r2 ek
      refine ⟨_, _, k, rfl, h1, ei, ?_, p2 _ _ σ (xb2.trans x3) (a2.later x3 L3)⟩
      rcases r4.val k with ⟨e1, _⟩ | ⟨_, _, _, e2, _⟩
      · rw [e1] at hk; exact absurd hk (by simp)
      · rw [e2]; rfl
end
end PM

set_option Elab.async false
set_option linter.all false
set_option maxRecDepth 100000
set_option maxHeartbeats 4000000
/-! PM6: loops, comprehensions. -/
namespace PM
open PySem PySem.Spec PyProof.Rows L2

/-- what a loop walks: what must stay, the items -/
structure Itb where
  chk : Sto → Prop
  xs : List D
abbrev EI := Env → Sto → R Itb
def IterOk (K : Frag) (ca : Nat → Addr) (α : Nat → Addr) (N : Nat) (H : Hp) (b : Itb) (J : It) : Prop :=
  ∀ α1 st1 H1, Xt K α N H α1 st1.length H1 → Lk K ca α1 st1 H1 → b.chk st1 → J.stop b.xs.length H1 ∧ ∀ i d, b.xs[i]? = some d → J.go i H1 ∧ ∀ x H2, J.yld i H1 x H2 → Xt K α1 st1.length H1 α1 st1.length H2 ∧ Lk K ca α1 st1 H2 ∧ RV K α1 st1.length H2 d x
def relI (K : Frag) (ca : Nat → Addr) : Rel Itb It := fun _ α N H b J => IterOk K ca α N H b J
def QI (X : Cx) (ca : Nat → Addr) (W : WX) (tg x : Expr) (e : EI) : Prop := PI X tg x (tG X.K ca (relI X.K ca) W e)
theorem piW {X : Cx} {tg x : Expr} {t t' : TI} (p : PI X tg x t) (h : ∀ σ H Q, t' σ H Q → t σ H Q) : PI X tg x t' := ⟨fun pins s σ H Q I q => p.run pins s σ H Q I (h σ H Q q)⟩

section
variable {X : Cx} {ca : Nat → Addr} {W : WX} {a b c : Expr} {ea eb ec : E} {pos : Pos} {tg : Expr} {p0 : Pos}
theorem pi_seq {l : Expr} {tl : TE} (hl : PE X l tl) : PI X tg l (fun σ H R => tl σ H fun x H1 => ∃ a, x = .ref a ∧ (((∃ xs, SqL X.K H1 a xs) ∧ R (Itl X.K a) H1) ∨ ((∃ xs, SqT X.K H1 a xs) ∧ R (Itt X.K a) H1))) := by
  refine ⟨fun pins s σ H R I h => ?_⟩
  refine thn (hl.run pins s σ H _ I h) fun v s1 ⟨x, H1, I1, r1, q1⟩ => ?_
  obtain ⟨a, e, q | q⟩ := q1
  · obtain ⟨⟨xs, hq⟩, q⟩ := q
    subst e
    cases r1
    obtain ⟨its, rv, p, hz⟩ := I1.list hq
    refine wpAny_pyIter_list p.isList ?_
    refine ⟨s1.heap.objs.size, [s1.heap.objs.size], _, _, H1, rfl, I1.kept (t' := s1.toks) fun b o e => Heap.get?_push_of_some _ e, turn_list a _, ⟨_, Heap.get?_push_size _ rfl, rfl, rfl⟩, fun b hb => ?_, q⟩
    have e : b = s1.heap.objs.size := by simpa using hb
    subst e
    exact I1.fpOk (Nat.le_refl _) (I1.hok.fresh (Nat.le_refl _))
  · obtain ⟨⟨xs, hq⟩, q⟩ := q
    subst e
    cases r1
    obtain ⟨its, rv, p, hz⟩ := I1.tuple hq
    refine wpAny_pyIter_tuple (show s1.heap.IsTuple a its.toArray from p) ?_
    refine ⟨s1.heap.objs.size, [s1.heap.objs.size], _, _, H1, rfl, I1.kept (t' := s1.toks) fun b o e => Heap.get?_push_of_some _ e, turn_tuple a _, ⟨_, Heap.get?_push_size _ rfl, rfl, rfl⟩, fun b hb => ?_, q⟩
    have e : b = s1.heap.objs.size := by simpa using hb
    subst e
    exact I1.fpOk (Nat.le_refl _) (I1.hok.fresh (Nat.le_refl _))
theorem sqL_inj {K : Frag} {H : Hp} {a : Addr} {xs ys : List V} (h : H a = some (.lst xs)) : SqL K H a xs := .inl (.inl h)
/-- an item of a list, read off -/
theorem itl_ok {K : Frag} {α : Nat → Addr} {N : Nat} {H1 : Hp} {a : Addr} {ds : List D} {vs : List V} (h : SqL K H1 a vs) (r : RVs K α N H1 ds vs) :
    (Itl K a).stop ds.length H1 ∧ ∀ i d, ds[i]? = some d → (Itl K a).go i H1 ∧ ∀ x H2, (Itl K a).yld i H1 x H2 → H2 = H1 ∧ RV K α N H1 d x := by
  refine ⟨⟨vs, h, by rw [r.length]; exact Nat.le_refl _⟩, fun i d e => ?_⟩
  obtain ⟨y, e2, r2⟩ := r.get e
  refine ⟨⟨vs, y, h, e2⟩, fun x H2 ⟨e3, q⟩ => ⟨e3, ?_⟩⟩
  have := q vs h
  rw [e2] at this
  cases this
  exact r2
theorem itt_ok {K : Frag} {α : Nat → Addr} {N : Nat} {H1 : Hp} {a : Addr} {ds : List D} {vs : List V} (h : SqT K H1 a vs) (r : RVs K α N H1 ds vs) :
    (Itt K a).stop ds.length H1 ∧ ∀ i d, ds[i]? = some d → (Itt K a).go i H1 ∧ ∀ x H2, (Itt K a).yld i H1 x H2 → H2 = H1 ∧ RV K α N H1 d x := by
  refine ⟨⟨vs, h, by rw [r.length]; exact Nat.le_refl _⟩, fun i d e => ?_⟩
  obtain ⟨y, e2, r2⟩ := r.get e
  refine ⟨⟨vs, y, h, e2⟩, fun x H2 ⟨e3, q⟩ => ⟨e3, ?_⟩⟩
  have := q vs h
  rw [e2] at this
  cases this
  exact r2
def itrD : D → Sto → R Itb
  | .tup xs, st => .ok ⟨fun _ => True, xs⟩ st
  | .con xs, st => .ok ⟨fun _ => True, xs⟩ st
  | .loc n, st => match st[n]? with
    | some (.lst xs) => .ok ⟨fun st => st[n]? = some (.lst xs), xs⟩ st
    | _ => .bad
  | _, _ => .bad
def cItr (e : E) : EI := fun ρ st => (e ρ st).bind itrD
theorem qi_e (h : QE X ca W a ea) : QI X ca W tg a (cItr ea) :=
  piW (pi_seq h) fun σ H Q ⟨α, st, ρ, at0, p⟩ => tG_next at0 .refl p fun α1 st1 d v H1 a1 _ x1 r1 p1 => by
    cases r1 <;> try exact False.elim p1
    · rename_i h r
      refine ⟨_, rfl, .inr ⟨⟨_, h⟩, p1 α1 H1 _ x1 a1.lk fun α2 st2 H2 x2 L2 _ => ?_⟩⟩
      obtain ⟨h1, h2⟩ := itt_ok (x2.tup _ _ h) (r.mono x2.toGr)
      refine ⟨h1, fun i d e => ⟨(h2 i d e).1, fun x H3 y => ?_⟩⟩
      obtain ⟨rfl, r3⟩ := (h2 i d e).2 x H3 y
      exact ⟨.refl, L2, r3⟩
    · rename_i h r
      refine ⟨_, rfl, .inl ⟨⟨_, h.sq⟩, p1 α1 H1 _ x1 a1.lk fun α2 st2 H2 x2 L2 _ => ?_⟩⟩
      obtain ⟨h1, h2⟩ := itl_ok (x2.con _ _ h).sq (r.mono x2.toGr)
      refine ⟨h1, fun i d e => ⟨(h2 i d e).1, fun x H3 y => ?_⟩⟩
      obtain ⟨rfl, r3⟩ := (h2 i d e).2 x H3 y
      exact ⟨.refl, L2, r3⟩
    · rename_i n hn
      simp only [itrD] at p1
      split at p1 <;> try exact p1.elim
      rename_i xs e
      obtain ⟨vs, h1, q1⟩ := lk_lst a1.lk e
      refine ⟨_, rfl, .inl ⟨⟨_, .inl (.inl h1)⟩, p1 α1 H1 _ x1 a1.lk fun α2 st2 H2 x2 L2 ck => ?_⟩⟩
      obtain ⟨ws, h2, q2⟩ := lk_lst L2 ck
      rw [x2.ag n hn] at h2
      obtain ⟨h3, h4⟩ := itl_ok (.inl (.inl h2)) q2
      refine ⟨h3, fun i d e => ⟨(h4 i d e).1, fun x H3 y => ?_⟩⟩
      obtain ⟨rfl, r3⟩ := (h4 i d e).2 x H3 y
      exact ⟨.refl, L2, r3⟩
def cItl (e : EL) : EI := fun ρ st => (e ρ st).bind fun xs st => .ok ⟨fun _ => True, xs⟩ st
theorem qi_l {e : EL} (h : QL X ca W a e) : QI X ca W tg a (cItl e) :=
  piW (pi_seq h) fun σ H Q ⟨α, st, ρ, at0, p⟩ => tG_next at0 .refl p fun α1 st1 d v H1 a1 _ x1 r1 p1 => by
    obtain ⟨q, vs, rfl, h0, h1, r, hn⟩ := r1
    refine ⟨_, rfl, .inl ⟨⟨_, .inl (.inl h1)⟩, p1 α1 H1 _ x1 a1.lk fun α2 st2 H2 x2 L2 _ => ?_⟩⟩
    obtain ⟨h3, h4⟩ := itl_ok (K := X.K) (.inl (.inl (x2.keep q _ h1 hn))) (r.mono x2.toGr)
    refine ⟨h3, fun i d e => ⟨(h4 i d e).1, fun x H3 y => ?_⟩⟩
    obtain ⟨rfl, r3⟩ := (h4 i d e).2 x H3 y
    exact ⟨.refl, L2, r3⟩
/-- lo, lo + 1, .. (n of them) -/
def rngD (lo : Int) (n : Nat) : List D := (List.range n).map fun i => D.int (lo + (i : Nat))
theorem itr_ok {K : Frag} {α : Nat → Addr} {N : Nat} {H : Hp} {lo : Int} {n : Nat} : IterOk K ca α N H ⟨fun _ => True, rngD lo n⟩ (Itr lo n) := by
  intro α1 st1 H1 x L _
  refine ⟨by show n ≤ (rngD lo n).length; simp [rngD], fun i d e => ?_⟩
  have e : (rngD lo n)[i]? = some d := e
  unfold rngD at e
  rw [List.getElem?_map] at e
  obtain ⟨j, e1, e2⟩ := Option.map_eq_some_iff.mp e
  obtain ⟨h1, h2⟩ := List.getElem?_eq_some_iff.mp e1
  simp at h1 h2
  subst h2
  refine ⟨h1, fun x H2 ⟨e3, e4⟩ => ?_⟩
  subst e3 e4 e2
  exact ⟨.refl, L, .int _⟩
def rng1D (x : D) (st : Sto) : R Itb := match x with
  | .int j => if -(2 ^ 62) ≤ j ∧ j < 2 ^ 62 then .ok ⟨fun _ => True, rngD 0 j.toNat⟩ st else .bad
  | _ => .bad
def cRng1 (e : E) : EI := fun ρ st => (e ρ st).bind rng1D
theorem qi_range1 (hg : Gl X "range") (hm : X.mg "range" = none) (ha : QE X ca W a ea) (hs : starEach [a] X.env = [(false, eval a X.env)] := by rfl) : QI X ca W tg (.Call (.Name "range" p0) [a] [] pos) (cRng1 ea) :=
  piW (pi_range1 hg hm (pa1 ha hs) hs) fun σ H Q ⟨α, st, ρ, at0, p⟩ => tG_next at0 .refl p fun α1 st1 d v H1 a1 _ x1 r1 p1 => by
    cases r1 <;> try exact False.elim p1
    rename_i j
    simp only [rng1D] at p1
    split at p1 <;> try exact p1.elim
    rename_i hj
    exact ⟨j, rfl, hj.1, hj.2, p1 α1 H1 _ x1 a1.lk itr_ok⟩
def rng2D (x y : D) (st : Sto) : R Itb := match x, y with
  | .int i, .int j => if (-(2 ^ 62) ≤ i ∧ i < 2 ^ 62 ∧ -(2 ^ 62) ≤ j ∧ j < 2 ^ 62) then .ok ⟨fun _ => True, rngD i (j - i).toNat⟩ st else .bad
  | _, _ => .bad
def cRng2 (e f : E) : EI := fun ρ st => (e ρ st).bind fun x st => (f ρ st).bind fun y st => rng2D x y st
theorem qi_range2 (hg : Gl X "range") (hm : X.mg "range" = none) (ha : QE X ca W a ea) (hb : QE X ca W b eb) (hs : starEach [a, b] X.env = [(false, eval a X.env), (false, eval b X.env)] := by rfl) (hs2 : starEach [b] X.env = [(false, eval b X.env)] := by rfl) :
    QI X ca W tg (.Call (.Name "range" p0) [a, b] [] pos) (cRng2 ea eb) :=
  piW (pi_range2 hg hm (pa_cons ha (pa1 hb hs2) (by rw [hs, hs2])) hs hs2) fun σ H Q ⟨α, st, ρ, at0, p⟩ => tG_next at0 .refl p fun α1 st1 d v H1 a1 _ x1 r1 p1 => tG_next a1 x1 p1 fun α2 st2 e u H2 a2 x2 xb r2 p2 => by
    cases r1 <;> try exact False.elim p2
    cases r2 <;> try exact False.elim p2
    rename_i i j
    simp only [rng2D] at p2
    split at p2 <;> try exact p2.elim
    rename_i hj
    exact ⟨i, j, rfl, hj, p2 α2 H2 _ xb a2.lk itr_ok⟩

/-! ### for -/
open Classical in
noncomputable def forGo (chk : Sto → Prop) (g : G) (body : S) : List D → Env → Sto → F
  | [], ρ, st => if chk st then .nx ρ st else .bad
  | x :: r, ρ, st => if chk st then match g x ρ with
    | some ρ1 => match body ρ1 st with
      | .nx ρ' st' => forGo chk g body r ρ' st'
      | .ct ρ' st' => forGo chk g body r ρ' st'
      | .bk ρ' st' => .nx ρ' st'
      | .rt d st' => .rt d st'
      | .exc c fs ρ' st' => .exc c fs ρ' st'
      | .bad => .bad
    | none => .bad else .bad
noncomputable def sFor (e : EI) (g : G) (body : S) : S := fun ρ st => fE (e ρ st) ρ fun b st => forGo b.chk g body b.xs ρ st
theorem qf_for {iter : Expr} {body : List Stmt} {e : EI} {g : G} {s1 : S} (o : Ok X W) (hi : QI X ca W tg iter e) (hg : QG X ca tg g) (hb : QFs X ca W body s1) (hs : ∀ x, foldedSetIterable iter X.env x = pure x := by intro _; rfl) :
    QF X ca W (.For tg iter body [] pos) (sFor e g s1) :=
  psW (ps_for o.hp o.calm hi hg hb hs) fun E σ H ⟨α, st, ρ, at0, p⟩ => by
    refine tF_next (rel := relI X.K ca) at0 .refl p fun α1 st1 b J H1 a1 _ x1 io p1 => ?_
    refine ⟨fun i m σ' H' => ∃ α' st' ρ', At X.K ca α' st' H' ρ' σ' ∧ Xt X.K α1 st1.length H1 α' st'.length H' ∧ m + i = b.xs.length ∧ FPost X.K ca α st.length H W E (forGo b.chk g s1 (b.xs.drop i) ρ' st'),
      ⟨b.xs.length, α1, st1, ρ, a1, .refl, rfl, p1⟩, ?_⟩
    rintro i m σ' H' ⟨α', st', ρ', a', x', hm, q⟩
    cases hd : b.xs.drop i with
    | nil =>
      rw [hd] at q
      unfold forGo at q
      split at q <;> try exact q.elim
      rename_i ck
      have hl : b.xs.length ≤ i := by simpa using hd
      have hil : i = b.xs.length := by omega
      subst hil
      exact .inl ⟨(io α' st' H' x' a'.lk ck).1, q α' H' σ' (x1.trans x') a'⟩
    | cons d r =>
      rw [hd] at q
      unfold forGo at q
      split at q <;> try exact q.elim
      rename_i ck
      have hlt : i < b.xs.length := by
        apply Classical.byContradiction
        intro hn
        rw [List.drop_eq_nil_of_le (Nat.le_of_not_lt hn)] at hd
        cases hd
      have hget : b.xs[i]? = some d := by
        have : (b.xs.drop i)[0]? = some d := by rw [hd]; rfl
        simpa using this
      have hr : b.xs.drop (i + 1) = r := by
        have : (b.xs.drop i).drop 1 = r := by rw [hd]; rfl
        rw [List.drop_drop] at this
        exact this
      obtain ⟨go, yl⟩ := (io α' st' H' x' a'.lk ck).2 i d hget
      cases eg : g d ρ' with
      | none => rw [eg] at q; exact q.elim
      | some ρ1 =>
        rw [eg] at q
        dsimp only at q
        refine .inr ⟨go, fun σ2 H2 => ∃ α' st' ρ', At X.K ca α' st' H2 ρ' σ2 ∧ Xt X.K α1 st1.length H1 α' st'.length H2 ∧ (m - 1) + (i + 1) = b.xs.length ∧ FPost X.K ca α st.length H W E (forGo b.chk g s1 (b.xs.drop (i + 1)) ρ' st'),
          fun σ2 H2 h => ⟨m - 1, by omega, h⟩, fun x H2 y => ?_⟩
        obtain ⟨xy, Ly, ry⟩ := yl x H2 y
        have ay := a'.later xy Ly
        refine ⟨α', st', d, ρ', ρ1, ay, ry, eg, fun σ3 a3 => ⟨α', st', ρ1, a3, ?_⟩⟩
        have xb := (x1.trans x').trans xy
        have xi := x'.trans xy
        revert q
        cases s1 ρ1 st' with
        | nx ρ2 st2 => exact fun q α4 H4 σ4 x4 a4 => ⟨α4, st2, ρ2, a4, xi.trans x4, by omega, by rw [hr]; exact q⟩
        | ct ρ2 st2 => exact fun q α4 H4 σ4 x4 a4 => ⟨α4, st2, ρ2, a4, xi.trans x4, by omega, by rw [hr]; exact q⟩
        | bk ρ2 st2 => exact fun q α4 H4 σ4 x4 a4 => q α4 H4 σ4 (xb.trans x4) a4
        | rt d2 st2 => exact fun q α4 H4 v x4 L4 r4 => q α4 H4 v (xb.trans x4) L4 r4
        | exc c fs ρ2 st2 => exact fun q α4 H4 σ4 dd x4 a4 r4 => q α4 H4 σ4 dd (xb.trans x4) a4 r4
        | bad => exact fun q => q

/-! ### while -/
def whileN (c : ET) (b : S) : Nat → Env → Sto → Option F
  | 0, _, _ => none
  | n + 1, ρ, st => match c ρ st with
    | .ok false st' => some (.nx ρ st')
    | .ok true st' => match b ρ st' with
      | .nx ρ2 st2 => whileN c b n ρ2 st2
      | .ct ρ2 st2 => whileN c b n ρ2 st2
      | .bk ρ2 st2 => some (.nx ρ2 st2)
      | .rt d st2 => some (.rt d st2)
      | .exc k fs ρ2 st2 => some (.exc k fs ρ2 st2)
      | .bad => some .bad
    | .exc k fs st' => some (.exc k fs ρ st')
    | .bad => some .bad
theorem whileN_mono {c : ET} {b : S} : ∀ {n : Nat} {ρ : Env} {st : Sto} {r : F}, whileN c b n ρ st = some r → ∀ {m : Nat}, n ≤ m → whileN c b m ρ st = some r
  | 0, _, _, _, h, _, _ => by cases h
  | n + 1, ρ, st, r, h, m, hm => by
    obtain ⟨m, rfl⟩ : ∃ k, m = k + 1 := ⟨m - 1, by omega⟩
    unfold whileN at h ⊢
    cases e : c ρ st with
    | exc k fs st' => rw [e] at h; exact h
    | bad => rw [e] at h; exact h
    | ok k st' =>
      rw [e] at h
      cases k with
      | false => exact h
      | true =>
        dsimp only at h ⊢
        cases e2 : b ρ st' with
        | nx ρ2 st2 => rw [e2] at h; exact whileN_mono h (by omega)
        | ct ρ2 st2 => rw [e2] at h; exact whileN_mono h (by omega)
        | bk ρ2 st2 => rw [e2] at h; exact h
        | rt d st2 => rw [e2] at h; exact h
        | exc k fs ρ2 st2 => rw [e2] at h; exact h
        | bad => rw [e2] at h; exact h
open Classical in
noncomputable def sWhile (c : ET) (b : S) : S := fun ρ st => if h : ∃ r, ∃ n, whileN c b n ρ st = some r then h.choose else .bad
theorem sWhile_eq {c : ET} {b : S} {ρ : Env} {st : Sto} {r : F} {n : Nat} (h : whileN c b n ρ st = some r) : sWhile c b ρ st = r := by
  unfold sWhile
  have hx : ∃ r, ∃ n, whileN c b n ρ st = some r := ⟨r, n, h⟩
  rw [dif_pos hx]
  obtain ⟨m, hm⟩ := hx.choose_spec
  have h1 := whileN_mono h (Nat.le_max_left n m)
  have h2 := whileN_mono hm (Nat.le_max_right n m)
  rw [h1] at h2
  exact (Option.some.inj h2).symm
theorem qf_while {body : List Stmt} {tc : ET} {s1 : S} (o : Ok X W) (hc : QT X ca W c tc) (hb : QFs X ca W body s1) : QF X ca W (.While c body [] pos) (sWhile tc s1) :=
  psW (ps_while o.hp hc hb) fun E σ H ⟨α, st, ρ, at0, p⟩ => by
    by_cases hx : ∃ r, ∃ n, whileN tc s1 n ρ st = some r
    · obtain ⟨r, n, hr⟩ := hx
      rw [sWhile_eq hr] at p
      refine ⟨fun m σ' H' => ∃ α' st' ρ', At X.K ca α' st' H' ρ' σ' ∧ Xt X.K α st.length H α' st'.length H' ∧ whileN tc s1 m ρ' st' = some r, ⟨n, α, st, ρ, at0, .refl, hr⟩, ?_⟩
      rintro m σ' H' ⟨α', st', ρ', a', x', h⟩
      refine ⟨α', st', ρ', a', ?_⟩
      cases m with
      | zero => cases h
      | succ m =>
        unfold whileN at h
        cases e : tc ρ' st' with
        | exc k fs st2 =>
          rw [e] at h
          cases h
          exact fun α2 H2 dd x2 L2 r2 => p α2 H2 σ' dd (x'.trans x2) (a'.later x2 L2) r2
        | bad => rw [e] at h; cases h; exact p.elim
        | ok k st2 =>
          rw [e] at h
          intro α2 H2 k' x2 L2 ek
          cases ek
          have a2 := a'.later x2 L2
          cases k with
          | false =>
            cases h
            rw [if_neg Bool.false_ne_true]
            exact p α2 H2 σ' (x'.trans x2) a2
          | true =>
            rw [if_pos rfl]
            refine ⟨fun σ3 H3 => ∃ α' st' ρ', At X.K ca α' st' H3 ρ' σ3 ∧ Xt X.K α st.length H α' st'.length H3 ∧ whileN tc s1 m ρ' st' = some r, fun σ3 H3 h3 => ⟨m, Nat.lt_succ_self _, h3⟩, α2, st2, ρ', a2, ?_⟩
            dsimp only at h
            have xb := x'.trans x2
            cases e2 : s1 ρ' st2 with
            | nx ρ2 st3 => rw [e2] at h; exact fun α4 H4 σ4 x4 a4 => ⟨α4, st3, ρ2, a4, xb.trans x4, h⟩
            | ct ρ2 st3 => rw [e2] at h; exact fun α4 H4 σ4 x4 a4 => ⟨α4, st3, ρ2, a4, xb.trans x4, h⟩
            | bk ρ2 st3 => rw [e2] at h; cases h; exact fun α4 H4 σ4 x4 a4 => p α4 H4 σ4 (xb.trans x4) a4
            | rt d st3 => rw [e2] at h; cases h; exact fun α4 H4 v x4 L4 r4 => p α4 H4 v (xb.trans x4) L4 r4
            | exc k fs ρ2 st3 => rw [e2] at h; cases h; exact fun α4 H4 σ4 dd x4 a4 r4 => p α4 H4 σ4 dd (xb.trans x4) a4 r4
            | bad => rw [e2] at h; cases h; exact p.elim
    · unfold sWhile at p
      rw [dif_neg hx] at p
      exact p.elim

/-! ### comprehensions -/
/-- a comprehension's target: names by their slots -/
inductive CT where
  | one (i : Nat) | tup (is : List Nat)
def CT.slots : CT → List Nat
  | .one i => [i]
  | .tup is => is
def setAll : List Nat → List D → Env → Option Env
  | [], [], ρ => some ρ
  | i :: is, d :: ds, ρ => setAll is ds (ρ.set i (some d))
  | _, _, _ => none
def CT.set : CT → D → Env → Option Env
  | .one i, d, ρ => some (ρ.set i (some d))
  | .tup is, .tup ds, ρ => setAll is ds ρ
  | .tup _, _, _ => none
def gNs : List Nat → TGs
  | [] => gNil
  | i :: is => gCons (gName i) (gNs is)
def CT.g (K : Frag) : CT → TG
  | .one i => gName i
  | .tup is => gTup K is.length (gNs is)
def wipeD (ρ : Env) : List Nat → Env
  | [] => ρ
  | v :: vs => (wipeD ρ vs).set v none
theorem wipe_at {σ : L2.St} : ∀ {vs : List Nat} {i : Nat}, (wipe σ vs)[i]? = if i ∈ vs then (if i < σ.length then some none else none) else σ[i]?
  | [], i => by simp [wipe]
  | v :: vs, i => by
    unfold wipe
    by_cases e : v = i
    · subst e
      simp only [List.mem_cons, true_or, if_true]
      by_cases hv : v < σ.length
      · rw [List.getElem?_set_self (by rw [wipe_length]; exact hv), if_pos hv]
      · rw [List.getElem?_eq_none (by rw [List.length_set, wipe_length]; omega), if_neg hv]
    · rw [List.getElem?_set_ne e, wipe_at]
      have : (i ∈ v :: vs) ↔ i ∈ vs := by simp only [List.mem_cons]; exact ⟨fun h => h.resolve_left fun z => e z.symm, .inr⟩
      simp only [this]
theorem wipe_set {σ : L2.St} {vs : List Nat} {i : Nat} {x : Option V} (h : i ∈ vs) : wipe (σ.set i x) vs = wipe σ vs := by
  apply List.ext_getElem?
  intro j
  rw [wipe_at, wipe_at, List.length_set]
  by_cases hj : j ∈ vs
  · rw [if_pos hj, if_pos hj]
  · rw [if_neg hj, if_neg hj, List.getElem?_set_ne (fun e => hj (by rw [← e]; exact h))]
theorem wipe_wipe {σ : L2.St} {vs : List Nat} : wipe (wipe σ vs) vs = wipe σ vs := by
  apply List.ext_getElem?
  intro j
  rw [wipe_at, wipe_at, wipe_length]
  by_cases hj : j ∈ vs
  · rw [if_pos hj, if_pos hj]
  · rw [if_neg hj, if_neg hj]
theorem RE.wipe {K : Frag} {α : Nat → Addr} {N : Nat} {H : Hp} {ρ : Env} {σ : L2.St} (r : RE K α N H ρ σ) : ∀ vs : List Nat, RE K α N H (wipeD ρ vs) (L2.wipe σ vs)
  | [] => r
  | v :: vs => (RE.wipe r vs).forget v
theorem gNs_ok {K : Frag} {α : Nat → Addr} {N : Nat} {H : Hp} {vs : List Nat} : ∀ {is : List Nat} {ds : List D} {ws : List V} {ρ ρ' : Env} {σ : L2.St} {Q : L2.St → Hp → Prop}, RVs K α N H ds ws → RE K α N H ρ σ → setAll is ds ρ = some ρ' → (∀ i ∈ is, i ∈ vs) →
    (∀ σ', RE K α N H ρ' σ' → wipe σ' vs = wipe σ vs → Q σ' H) → gNs is ws σ H Q
  | [], _, _, ρ, ρ', σ, Q, .nil, re, e, _, q => by cases e; exact ⟨rfl, q σ re rfl⟩
  | [], _, _, _, _, _, _, .cons _ _, _, e, _, _ => by cases e
  | i :: is, _, _, _, _, _, _, .nil, _, e, _, _ => by cases e
  | i :: is, _, _, ρ, ρ', σ, Q, .cons (v := v) h r, re, e, hs, q => by
    refine ⟨_, _, rfl, ?_⟩
    show gNs is _ (σ.set i (some v)) H Q
    exact gNs_ok r (re.set h i) e (fun j hj => hs j (List.mem_cons_of_mem _ hj)) fun σ' r' w' => q σ' r' (w'.trans (wipe_set (hs i List.mem_cons_self)))
theorem CT.ok {K : Frag} {α : Nat → Addr} {N : Nat} {H : Hp} {vs : List Nat} {t : CT} {d : D} {v : V} {ρ ρ' : Env} {σ : L2.St} {Q : L2.St → Hp → Prop} (r : RV K α N H d v) (re : RE K α N H ρ σ) (e : t.set d ρ = some ρ') (hs : ∀ i ∈ t.slots, i ∈ vs)
    (q : ∀ σ', RE K α N H ρ' σ' → wipe σ' vs = wipe σ vs → Q σ' H) : t.g K v σ H Q := by
  cases t with
  | one i =>
    cases e
    exact q _ (re.set r i) (wipe_set (hs i (by simp [CT.slots])))
  | tup is =>
    cases r <;> try cases e
    rename_i h r
    have e : setAll is _ ρ = some ρ' := e
    have hl : is.length = _ := (by
      have go : ∀ {is : List Nat} {ds : List D} {ρ ρ' : Env}, setAll is ds ρ = some ρ' → is.length = ds.length := by
        intro is
        induction is with
        | nil => intro ds ρ ρ' h; cases ds <;> first | rfl | cases h
        | cons i is ih => intro ds ρ ρ' h; cases ds with
          | nil => cases h
          | cons d ds => simp only [List.length_cons]; rw [ih h]
      exact go e)
    exact ⟨_, _, rfl, h, by rw [← r.length, hl], gNs_ok r re e hs q⟩
theorem bind_assoc {β γ δ : Type} (r : R β) (f : β → Sto → R γ) (g : γ → Sto → R δ) : (r.bind f).bind g = r.bind fun x st => (f x st).bind g := by cases r <;> rfl

/-- one block's turn by turn: the items that come out -/
def cNx {β : Type} : R β → R β
  | .ok b st => .ok b st
  | _ => .bad
open Classical in
noncomputable def compGo {β : Type} (chk : Sto → Prop) (t : CT) (tt : ET) (te : Env → Sto → R β) (ρ : Env) : List D → Sto → R (List β)
  | [], st => if chk st then .ok [] st else .bad
  | x :: r, st => if chk st then match t.set x ρ with
    | some ρ1 => (cNx (tt ρ1 st)).bind fun k st => match k with
      | true => (cNx (te ρ1 st)).bind fun y st => (compGo chk t tt te ρ r st).bind fun ys st => .ok (y :: ys) st
      | false => compGo chk t tt te ρ r st
    | none => .bad else .bad
noncomputable def cComp (e : EI) (t : CT) (tt : ET) (te : E) (vs : List Nat) : EL := fun ρ st => (e ρ st).bind fun b st =>
  if b.xs.length ≤ sizeLine then compGo b.chk t tt te (wipeD ρ vs) b.xs st else .bad
def tYesD : ET := fun _ st => .ok true st
/-- the list that grows, which no name holds -/
theorem xt_scratch {K : Frag} {α α' : Nat → Addr} {N N' : Nat} {H H' : Hp} {L : Addr} {ho ho' : HO} (x : Xt K α N H α' N' H') (h0 : H L = none) (hn : ∀ n, n < N' → α' n ≠ L) (h1 : H' L = some ho) (nt : ∀ xs, ho ≠ .tup xs) (nf : ∀ o u, ho ≠ .frz o u) : Xt K α N H α' N' (upd H' L ho') where
  le := x.le
  ag := x.ag
  tup := fun a vs h => sqT_upd (fun xs z => by rw [h1] at z; exact nt xs (Option.some.inj z)) (fun o xs z => by rw [h1] at z; exact nf o _ (Option.some.inj z)) (x.tup a vs h)
  con := fun a vs h => conL_upd (fun o xs z => by rw [h1] at z; exact nf o _ (Option.some.inj z)) (x.con a vs h)
  new := x.new
  keep := fun a o h hne => by rw [upd_ne (ne_of_none h h0)]; exact x.keep a o h hne
  old := fun n hl ho => by
    have := x.old n hl ho
    rw [upd_ne (by rw [← x.ag n hl]; exact hn n (Nat.lt_of_lt_of_le hl x.le))]; exact this
  frz := fun a o u h => by rw [upd_ne (ne_of_none h h0)]; exact x.frz a o u h
theorem lk_scratch {K : Frag} {α : Nat → Addr} {st : Sto} {H : Hp} {L : Addr} {ho ho' : HO} (k : Lk K ca α st H) (hn : ∀ n, n < st.length → α n ≠ L) (h1 : H L = some ho) (nt : ∀ xs, ho ≠ .tup xs) (nf : ∀ o u, ho ≠ .frz o u) : Gr K α st.length H α st.length (upd H L ho') ∧ Lk K ca α st (upd H L ho') := by
  have g : Gr K α st.length H α st.length (upd H L ho') := ⟨Nat.le_refl _, fun _ _ => rfl, fun a vs h => sqT_upd (fun xs z => by rw [h1] at z; exact nt xs (Option.some.inj z)) (fun o xs z => by rw [h1] at z; exact nf o _ (Option.some.inj z)) h,
    fun a vs h => conL_upd (fun o xs z => by rw [h1] at z; exact nf o _ (Option.some.inj z)) h⟩
  exact ⟨g, fun n o h => by
    obtain ⟨x, hx, r⟩ := k.at_ n o h
    exact ⟨x, by rw [upd_ne (hn n (Lk.lt_of h))]; exact hx, r.mono g⟩, k.inj⟩
abbrev W0 : WX := fun _ _ _ _ => False
theorem comp_tLc {e : EI} {t : CT} {tt : ET} {te : E} {own : List (Str × Nat)} {σ : L2.St} {H : Hp} {Q : VK} (hv : ∀ i ∈ t.slots, i ∈ own.map (·.2)) (h : tG X.K ca (relL X.K) W (cComp e t tt te (own.map (·.2))) σ H Q) :
    tLc (tG X.K ca (relI X.K ca) W e) (t.g X.K) (tG X.K ca relB W0 tt) (tG X.K ca (relV X.K) W0 te) (own.map (·.2)) σ H Q := by
  obtain ⟨α, st, ρ, at0, p⟩ := h
  refine tG_next (rel := relI X.K ca) at0 .refl p fun α1 st1 b J H1 a1 _ x1 io p1 => ?_
  intro L hL
  split at p1 <;> try exact p1.elim
  rename_i hz
  have nL : ∀ n, n < st1.length → α1 n ≠ L := fun n hn z => by
    obtain ⟨o, ho⟩ := a1.lk.there hn
    rw [z, hL] at ho; cases ho
  have keyW : ∀ {α' α'' : Nat → Addr} {st' st'' : Sto} {H' H'' : Hp} {accV : List V}, (∀ n, n < st'.length → α' n ≠ L) → H' L = some (.lst accV) → Xt X.K α' st'.length H' α'' st''.length H'' → ∀ n, n < st''.length → α'' n ≠ L := fun {α' α'' st' st'' H' H'' accV} hn hD x n hl z => by
    by_cases h1 : n < st'.length
    · rw [x.ag n h1] at z; exact hn n h1 z
    · have := x.new n (Nat.le_of_not_lt h1) hl
      rw [z, hD] at this; cases this
  have W : ∃ Wv : Nat → Nat → Hp → Prop, Wv = fun i m H' => ∃ α' st' acc accV, At X.K ca α' st' H' ρ σ ∧ Xt X.K α1 st1.length H1 α' st'.length H' ∧ H' L = some (.lst accV) ∧ (∀ n, n < st'.length → α' n ≠ L) ∧ RVs X.K α' st'.length H' acc accV ∧ acc.length ≤ i ∧ m + i = b.xs.length ∧
    Post X.K ca (relL X.K) α st.length H (fun c d H' => W c d σ H') Q ((compGo b.chk t tt te (wipeD ρ (own.map (·.2))) (b.xs.drop i) st').bind fun ys st => .ok (acc ++ ys) st) := ⟨_, rfl⟩
  obtain ⟨Wv, eW⟩ := W
  refine ⟨Wv, ⟨b.xs.length, ?_⟩, ?_⟩
  · rw [eW]
    refine ⟨α1, st1, [], [], a1.later (xt_new hL) (a1.lk.temp hL), xt_new hL, upd_same, nL, .nil, Nat.le_refl _, rfl, ?_⟩
    rw [List.drop_zero]
    have e0 : ∀ r : R (List D), (r.bind fun ys st => .ok ([] ++ ys) st) = r := fun r => by cases r <;> rfl
    rw [e0]
    exact p1
  · intro i m H' hW
    rw [eW] at hW
    obtain ⟨α', st', acc, accV, a', x', hD, nL', ra, hai, hm, q⟩ := hW
    cases hd : b.xs.drop i with
    | nil =>
      rw [hd] at q
      unfold compGo at q
      split at q <;> try exact q.elim
      rename_i ck
      have hl : b.xs.length ≤ i := by simpa using hd
      have hil : i = b.xs.length := by omega
      subst hil
      refine .inl ⟨(io α' st' H' x' a'.lk ck).1, ?_⟩
      rw [R.bind_ok, List.append_nil] at q
      exact q α' H' _ (x1.trans x') a'.lk ⟨L, accV, rfl, x1.fresh hL, hD, ra, nL'⟩
    | cons d r =>
      rw [hd] at q
      unfold compGo at q
      split at q <;> try exact q.elim
      rename_i ck
      have hlt : i < b.xs.length := by
        apply Classical.byContradiction
        intro hn
        rw [List.drop_eq_nil_of_le (Nat.le_of_not_lt hn)] at hd
        cases hd
      have hget : b.xs[i]? = some d := by
        have : (b.xs.drop i)[0]? = some d := by rw [hd]; rfl
        simpa using this
      have hr : b.xs.drop (i + 1) = r := by
        have : (b.xs.drop i).drop 1 = r := by rw [hd]; rfl
        rw [List.drop_drop] at this
        exact this
      obtain ⟨go, yl⟩ := (io α' st' H' x' a'.lk ck).2 i d hget
      cases eg : t.set d (wipeD ρ (own.map (·.2))) with
      | none => rw [eg] at q; exact q.elim
      | some ρ1 =>
        rw [eg] at q
        dsimp only at q
        refine .inr ⟨go, Wv (i + 1) (m - 1), fun H2 h => ⟨m - 1, by omega, h⟩, fun x H2 y => ?_⟩
        obtain ⟨xy, Ly, ry⟩ := yl x H2 y
        have hD2 := xy.keep L _ hD nL'
        have re2 := (a'.re.mono xy.toGr).wipe (own.map (·.2))
        refine CT.ok ry re2 eg hv fun σ2 re3 hw => ⟨hw.trans wipe_wipe, ?_⟩
        refine ⟨α', st', ρ1, ⟨Ly, re3⟩, ?_⟩
        rw [bind_assoc] at q
        revert q
        cases tt ρ1 st' with
        | exc c fs st2 => exact fun q => False.elim q
        | bad => exact fun q => False.elim q
        | ok k st2 =>
          intro q α2 H3 k' x2 L2 ek
          cases ek
          have nL2 := keyW nL' hD2 x2
          have hD3 := x2.keep L _ hD2 nL'
          have xi := (x'.trans xy).trans x2
          cases k with
          | false =>
            rw [if_neg Bool.false_ne_true, eW]
            exact ⟨α2, st2, acc, accV, (a'.later xy Ly).later x2 L2, xi, hD3, nL2, ra.mono (xy.trans x2).toGr, by omega, by omega, by rw [hr]; exact q⟩
          | true =>
            rw [if_pos rfl]
            refine ⟨α2, st2, ρ1, ⟨L2, re3.mono x2.toGr⟩, ?_⟩
            have q : Post X.K ca (relL X.K) α st.length H (fun c d H' => W c d σ H') Q (((cNx (te ρ1 st2)).bind fun y st => (compGo b.chk t tt te (wipeD ρ (own.map (·.2))) r st).bind fun ys st => .ok (y :: ys) st).bind fun ys st => .ok (acc ++ ys) st) := q
            rw [bind_assoc] at q
            revert q
            cases te ρ1 st2 with
            | exc c fs st2 => exact fun q => False.elim q
            | bad => exact fun q => False.elim q
            | ok yd st3 =>
              intro q α3 H4 yv x3 L3 r3
              have nL3 := keyW nL2 hD3 x3
              have hD4 := x3.keep L _ hD3 nL2
              have xi3 := xi.trans x3
              have ra3 := ra.mono ((xy.trans x2).trans x3).toGr
              refine ⟨accV, hD4, by rw [← ra3.length]; omega, ?_⟩
              obtain ⟨g5, L5⟩ := lk_scratch (ho' := .lst (accV ++ [yv])) L3 nL3 hD4 (fun _ z => by cases z) (fun _ _ z => by cases z)
              have x5 := xt_scratch (ho' := .lst (accV ++ [yv])) xi3 hL nL3 hD4 (fun _ z => by cases z) (fun _ _ z => by cases z)
              rw [eW]
              refine ⟨α3, st3, acc ++ [yd], accV ++ [yv], ⟨L5, (((a'.re.mono xy.toGr).mono x2.toGr).mono x3.toGr).mono g5⟩, x5, upd_same, nL3, (ra3.append (.cons r3 .nil)).mono g5, by rw [List.length_append]; show _ + 1 ≤ _; omega, by omega, ?_⟩
              have e1 : ∀ ys : List D, acc ++ [yd] ++ ys = acc ++ yd :: ys := fun ys => by simp
              have q : Post X.K ca (relL X.K) α st.length H (fun c d H' => W c d σ H') Q (((compGo b.chk t tt te (wipeD ρ (own.map (·.2))) r st3).bind fun ys st => .ok (yd :: ys) st).bind fun ys st => .ok (acc ++ ys) st) := q
              rw [bind_assoc] at q
              rw [hr]
              simp only [e1]
              exact q
theorem ql_comp {elt iter : Expr} {ifs : List Expr} {scope : Scope} {own : List (Str × Nat)} {e : EI} {t : CT} {tt : ET} {te : E} (hc : X.calm = true) (hN : X.N.Nodup) (hi : QI X ca W tg iter e) (ok : BlkOk X.N X.env.scope scope own)
    (hg : ∀ (s : Shared) (H : Hp) (C : Addr) (cl : List (Str × Addr)) (fp : List Addr), PG (X.blk s H scope (compEnvC scope cl C X.env) fp) tg (t.g X.K))
    (ht : ∀ (s : Shared) (H : Hp) (C : Addr) (cl : List (Str × Addr)) (fp : List Addr), PTs (X.blk s H scope (compEnvC scope cl C X.env) fp) ifs (tG X.K ca relB W0 tt))
    (he : ∀ (s : Shared) (H : Hp) (C : Addr) (cl : List (Str × Addr)) (fp : List Addr), QE (X.blk s H scope (compEnvC scope cl C X.env) fp) ca W0 elt te)
    (hv : ∀ i ∈ t.slots, i ∈ own.map (·.2)) (hs : ∀ x, foldedSetIterable iter X.env x = pure x := by intro _; rfl) :
    QL X ca W (.ListComp elt [⟨tg, iter, ifs, 0⟩] scope pos) (cComp e t tt te (own.map (·.2))) :=
  peW (pe_lc (te := tG X.K ca (relV X.K) W0 te) hc hN hi ok hg ht he hs) fun σ H Q h => comp_tLc hv h
/-- y = [..], y a plain name -/
theorem qf_setLc (i : Nat) {y : Str} {py spos : Pos} {elt iter : Expr} {ifs : List Expr} {scope : Scope} {own : List (Str × Nat)} {e : EI} {t : CT} {tt : ET} {te : E} (hc : X.calm = true) (hN : X.N.Nodup) (hi : QI X ca W tg iter e) (ok : BlkOk X.N X.env.scope scope own)
    (hg : ∀ (s : Shared) (H : Hp) (C : Addr) (cl : List (Str × Addr)) (fp : List Addr), PG (X.blk s H scope (compEnvC scope cl C X.env) fp) tg (t.g X.K))
    (ht : ∀ (s : Shared) (H : Hp) (C : Addr) (cl : List (Str × Addr)) (fp : List Addr), PTs (X.blk s H scope (compEnvC scope cl C X.env) fp) ifs (tG X.K ca relB W0 tt))
    (he : ∀ (s : Shared) (H : Hp) (C : Addr) (cl : List (Str × Addr)) (fp : List Addr), QE (X.blk s H scope (compEnvC scope cl C X.env) fp) ca W0 elt te)
    (hv : ∀ i ∈ t.slots, i ∈ own.map (·.2)) (hy : X.N[i]? = some y := by rfl) (hyl : X.env.scope.names.lookup y = some .local := by rfl)
    (hsw : swapsWith (.ListComp elt [⟨tg, iter, ifs, 0⟩] scope pos) (some (.Name y py)) spos.line X.env = pure true := by exact sw_true rfl rfl rfl (by decide +kernel)) (hs : ∀ x, foldedSetIterable iter X.env x = pure x := by intro _; rfl) :
    QF X ca W (.Assign [.Name y py] (.ListComp elt [⟨tg, iter, ifs, 0⟩] scope pos) spos) (sSet i (cNew (cComp e t tt te (own.map (·.2))))) :=
  psW (ps_setLc (te := tG X.K ca (relV X.K) W0 te) hc hN hy hyl hsw hi ok hg ht he hs) fun E σ H ⟨α, st, ρ, at0, p⟩ => by
    refine comp_tLc (Q := fun v H' => gName i v σ H' E.nx) hv (W := W) ⟨α, st, ρ, at0, ?_⟩
    have p : FPost X.K ca α st.length H W E (fE ((cComp e t tt te (own.map (·.2)) ρ st).bind fun xs st => .ok (.loc st.length) (st ++ [.lst xs])) ρ fun d st => .nx (ρ.set i (some d)) st) := p
    revert p
    cases cComp e t tt te (own.map (·.2)) ρ st with
    | exc c fs st' => exact fun p α' H' dd x L xd => p α' H' σ dd x (at0.later x L) xd
    | bad => exact fun p => p
    | ok xs st' =>
      intro p α' H' g x L ⟨l, vs, eg, hf, hl, r, hn⟩
      subst eg
      obtain ⟨L2, x2⟩ := L.adopt hl hn (.lst r) x hf
      refine p _ H' _ x2 ⟨L2, ?_⟩
      have g2 : Gr X.K α st.length H (ext α' st'.length l) (st' ++ [O.lst xs]).length H' := x2.toGr
      have rv : RV X.K (ext α' st'.length l) (st' ++ [O.lst xs]).length H' (.loc st'.length) (.ref l) := by
        have e : V.ref l = V.ref (ext α' st'.length l st'.length) := by rw [ext_at]
        rw [e]
        exact .loc (by simp)
      exact (at0.re.mono g2).set rv i
end
end PM

set_option Elab.async false
set_option linter.all false
set_option maxRecDepth 100000
set_option maxHeartbeats 4000000
/-! PM7: defs, calls, classes, errors. -/
namespace PM
open PySem PySem.Spec PyProof.Rows L2

mutual
/-- no object from N on is named -/
def below (N : Nat) : D → Bool
  | .non => true | .bl _ => true | .int _ => true | .str _ => true
  | .tup xs => belowAll N xs
  | .con xs => belowAll N xs
  | .loc n => decide (n < N)
def belowAll (N : Nat) : List D → Bool
  | [] => true
  | x :: xs => below N x && belowAll N xs
end
mutual
theorem RV.low {K : Frag} {α : Nat → Addr} {N N' : Nat} {H : Hp} : ∀ {d : D} {v : V}, RV K α N' H d v → below N d = true → RV K α N H d v
  | _, _, .non, _ => .non
  | _, _, .bl b, _ => .bl b
  | _, _, .int i, _ => .int i
  | _, _, .str s, _ => .str s
  | _, _, .tup h r, e => .tup h (RVs.low r e)
  | _, _, .con h r, e => .con h (RVs.low r e)
  | _, _, .loc _, e => .loc (of_decide_eq_true e)
theorem RVs.low {K : Frag} {α : Nat → Addr} {N N' : Nat} {H : Hp} : ∀ {d : List D} {v : List V}, RVs K α N' H d v → belowAll N d = true → RVs K α N H d v
  | _, _, .nil, _ => .nil
  | _, _, .cons h r, e => .cons (RV.low h (Bool.and_eq_true _ _ |>.mp e).1) (RVs.low r (Bool.and_eq_true _ _ |>.mp e).2)
end
mutual
theorem RV.bel {K : Frag} {α : Nat → Addr} {N : Nat} {H : Hp} : ∀ {d : D} {v : V}, RV K α N H d v → below N d = true
  | _, _, .non => rfl
  | _, _, .bl _ => rfl
  | _, _, .int _ => rfl
  | _, _, .str _ => rfl
  | _, _, .tup _ r => RVs.bel r
  | _, _, .con _ r => RVs.bel r
  | _, _, .loc h => decide_eq_true h
theorem RVs.bel {K : Frag} {α : Nat → Addr} {N : Nat} {H : Hp} : ∀ {d : List D} {v : List V}, RVs K α N H d v → belowAll N d = true
  | _, _, .nil => rfl
  | _, _, .cons h r => Bool.and_eq_true _ _ |>.mpr ⟨RV.bel h, RVs.bel r⟩
end
theorem RKs.low {K : Frag} {α : Nat → Addr} {N N' : Nat} {H : Hp} {κ : Type} : ∀ {d : List (κ × D)} {v w : List (κ × V)}, RKs K α N' H d v → RKs K α N H d w → RKs K α N H d v
  | _, _, _, .nil, .nil => .nil
  | _, _, _, .cons h r, .cons h' r' => .cons (h.low h'.bel) (RKs.low r r')
theorem RKs.low2 {K : Frag} {α α0 : Nat → Addr} {N N' : Nat} {H H0 : Hp} {κ : Type} : ∀ {d : List (κ × D)} {v w : List (κ × V)}, RKs K α N' H d v → RKs K α0 N H0 d w → RKs K α N H d v
  | _, _, _, .nil, .nil => .nil
  | _, _, _, .cons h r, .cons h' r' => .cons (h.low h'.bel) (RKs.low2 r r')
theorem RO.low {K : Frag} {ca : Nat → Addr} {α α0 : Nat → Addr} {N N' : Nat} {H H0 : Hp} {o : O} {ho ho0 : HO} (r : RO K ca α N' H o ho) (r0 : RO K ca α0 N H0 o ho0) : RO K ca α N H o ho := by
  cases r with
  | lst r => cases r0 with | lst r0 => exact .lst (r.low r0.bel)
  | dct r => cases r0 with | dct r0 => exact .dct (r.low2 r0)
  | fdc r => cases r0 with | fdc r0 => exact .fdc (r.low2 r0)
  | dtt r => cases r0 with | dtt r0 => exact .dtt (r.low2 r0)
  | ins r => cases r0 with | ins r0 => exact .ins (r.low2 r0)
/-- objects that nobody can name any more are let go -/
theorem gc_ok {K : Frag} {ca : Nat → Addr} {α α' : Nat → Addr} {st st' : Sto} {H H' : Hp} (L : Lk K ca α st H) (x : Xt K α st.length H α' st'.length H') (L' : Lk K ca α' st' H') (pre : st <+: st') :
    Xt K α st.length H α' st.length H' ∧ Lk K ca α' st H' := by
  obtain ⟨g, rfl⟩ := pre
  refine ⟨⟨⟨Nat.le_refl _, x.ag, x.tup, x.con⟩, fun n h h' => absurd h' (Nat.not_lt.mpr h), x.keep, x.old, x.frz⟩, fun n o h => ?_, fun i j hi hj e => L'.inj i j (by simp; omega) (by simp; omega) e⟩
  have hn := Lk.lt_of h
  obtain ⟨ho, h1, r1⟩ := L'.at_ n o (by rw [List.getElem?_append_left hn]; exact h)
  obtain ⟨ho0, h0, r0⟩ := L.at_ n o h
  exact ⟨ho, h1, r1.low r0⟩
open Classical in
noncomputable def gcR (st : Sto) : R D → R D
  | .ok d st' => if st <+: st' ∧ below st.length d = true then .ok d st else .ok d st'
  | .exc c fs st' => if st <+: st' ∧ fs = [] then .exc c fs st else .exc c fs st'
  | .bad => .bad
/-- a def's mirror, by its body's -/
def outR : F → R D
  | .nx _ st => .ok .non st
  | .rt d st => .ok d st
  | .exc c fs _ st => .exc c fs st
  | _ => .bad
noncomputable def mDef (n : Nat) (s : S) (ds : List D) (st : Sto) : R D := gcR st (outR (s (ds.map some ++ List.replicate (n - ds.length) none) st))
abbrev M := List D → Sto → R D

/-- the promise of a def whose mirror is m -/
def spOf (K : Frag) (ca : Nat → Addr) (n : Nat) (m : M) : Sp := fun vs H Q E => vs.length = n ∧ ∃ α st ds, Lk K ca α st H ∧ RVs K α st.length H ds vs ∧ Post K ca (relV K) α st.length H E Q (m ds st)
/-- a def of the module, by its name -/
def Fn (P : Program) (w : World) (K : Frag) (mg : Str → Option Value) (base : Heap) (ca : Nat → Addr) (k : Nat) (x : Str) (ps : List Str) (m : M) : Prop :=
  ∃ f fd, mg x = some (.ref f) ∧ PySem.W.keepIn K (.ref f) = true ∧ Binds K fd ps [] ∧ FnOk P w K mg base (L2.CX P w) k f fd ps (spOf K ca ps.length m)
/-- a method of class c -/
def Md (P : Program) (w : World) (K : Frag) (mg : Str → Option Value) (base : Heap) (ca : Nat → Addr) (k : Nat) (c : Nat) (x : Str) (ps : List Str) (m : M) : Prop :=
  ∃ f fd, Cls K (ca c) ∧ Meth K (ca c) x f ∧ Binds K fd ps [] ∧ FnOk P w K mg base (L2.CX P w) k f fd ps (spOf K ca ps.length m)
/-- a class that is called: its __init__ -/
def Cm (P : Program) (w : World) (K : Frag) (mg : Str → Option Value) (base : Heap) (ca : Nat → Addr) (k : Nat) (c : Nat) (x : Str) (ps : List Str) (m : M) : Prop :=
  ∃ f fd, mg x = some (.ref (ca c)) ∧ Mk K (ca c) f ∧ Binds K fd ps [] ∧ FnOk P w K mg base (L2.CX P w) k f fd ps (spOf K ca ps.length m)

section
variable {P : Program} {w : World} {K : Frag} {mg : Str → Option Value} {base : Heap} {ca : Nat → Addr}
/-- THE RULE for a def: its body's derivation -/
theorem fn_ok {x qual : Str} {st : Stmt} {f : Addr} {fd : FuncData} {N ps : List Str} {k : Nat} {s : S} (Fx : Fun K x qual st f fd) (sc : FnScope N ps (defScope st))
    (hb : ∀ (cdv : Value) (A : Around) (outer : List PySem.Env) (s0 : Shared) (H : Hp) (E : XK), Room k (A.deeper (envOfC qual (defScope st) s0.heap.objs.size f cdv)) →
      Ok (cxOf (L2.CX P w) P w K mg base N qual (defScope st) f cdv A outer s0 H E) (fun c d _ H => E c d H) →
      QFs (cxOf (L2.CX P w) P w K mg base N qual (defScope st) f cdv A outer s0 H E) ca (fun c d _ H => E c d H) (defBody st) s) :
    FnOk P w K mg base (L2.CX P w) (k + 1) f fd ps (spOf K ca ps.length (mDef N.length s)) := by
  refine Fx.okX sc (fun vs H Q E h => h.1) fun cdv A outer s0 H vs Q E hr h => ?_
  obtain ⟨hl, α, st, ds, L, r, p⟩ := h
  refine ⟨_, hb cdv A outer s0 H E hr ⟨takes_of rfl rfl rfl rfl, passes_of (K := fun e s' => L2.CX P w outer H s0 E e s') rfl, rfl⟩, ?_⟩
  have hds : ds.length = vs.length := r.length
  refine ⟨α, st, ds.map some ++ List.replicate (N.length - ds.length) none, ⟨L, ?_⟩, ?_⟩
  · unfold L2.start
    rw [hds]
    exact RE.start r _
  · unfold mDef at p
    revert p
    cases s (ds.map some ++ List.replicate (N.length - ds.length) none) st with
    | nx ρ st' =>
      intro p α' H' σ' x a
      simp only [outR, gcR] at p
      split at p
      · rename_i h
        obtain ⟨x2, L2⟩ := gc_ok L x a.lk h.1
        exact p α' H' .non x2 L2 .non
      · exact p α' H' .non x a.lk .non
    | rt d st' =>
      intro p α' H' v x L' rv
      simp only [outR, gcR] at p
      split at p
      · rename_i h
        obtain ⟨x2, L2⟩ := gc_ok L x L' h.1
        exact p α' H' v x2 L2 (rv.low h.2)
      · exact p α' H' v x L' rv
    | exc c fs ρ st' =>
      intro p α' H' σ' dd x a xd
      simp only [outR, gcR] at p
      split at p
      · rename_i h
        obtain ⟨x2, L2⟩ := gc_ok L x a.lk h.1
        refine p α' H' dd x2 L2 ?_
        obtain ⟨_, rfl⟩ := h
        rcases xd with ⟨_, e⟩ | ⟨d, gs, e1, e2, r⟩
        · exact .inl ⟨rfl, e⟩
        · cases r
          exact .inr ⟨d, _, e1, e2, .nil⟩
      · exact p α' H' dd x a.lk xd
    | bk _ _ => exact fun p => False.elim p
    | ct _ _ => exact fun p => False.elim p
    | bad => exact fun p => False.elim p
theorem FnOk.up {k k' : Nat} {f : Addr} {fd : FuncData} {ps : List Str} {m : M} (h : FnOk P w K mg base (L2.CX P w) k f fd ps (spOf K ca ps.length m)) (hk : k ≤ k') : FnOk P w K mg base (L2.CX P w) k' f fd ps (spOf K ca ps.length m) := h.mono hk
theorem Fn.up {k k' : Nat} {x : Str} {ps : List Str} {m : M} (h : Fn P w K mg base ca k x ps m) (hk : k ≤ k') : Fn P w K mg base ca k' x ps m := by
  obtain ⟨f, fd, h1, h2, h3, h4⟩ := h
  exact ⟨f, fd, h1, h2, h3, h4.mono hk⟩
/-- a mirror that tells less -/
def Le (m m' : M) : Prop := ∀ ds st, m ds st = .bad ∨ m ds st = m' ds st
theorem spOf_le {n : Nat} {m m' : M} (h : Le m m') {vs : List V} {H : Hp} {Q : VK} {E : XK} (p : spOf K ca n m vs H Q E) : spOf K ca n m' vs H Q E := by
  obtain ⟨h1, α, st, ds, L, r, p⟩ := p
  refine ⟨h1, α, st, ds, L, r, ?_⟩
  rcases h ds st with e | e
  · rw [e] at p; exact p.elim
  · rw [← e]; exact p
end

section
variable {X : Cx} {ca : Nat → Addr} {W : WX} {a b c o : Expr} {ea eb ec eo : E} {pos : Pos} {es : List Expr} {ees : List E} {x : Str} {p0 apos cpos : Pos} {k : Nat} {ps : List Str} {m : M}
theorem tG_next3 {K : Frag} {β γ β' γ' : Type} {rel : Rel β γ} {rel' : Rel β' γ'} {e : Env → Sto → R β} {f : β → Sto → R β'} {σ : L2.St} {H0 H1 : Hp} {Q : γ' → Hp → Prop} {T : γ → Hp → Prop} {α α0 : Nat → Addr} {st : Sto} {N0 : Nat} {ρ : Env}
    (a : At K ca α st H1 ρ σ) (x : Xt K α0 N0 H0 α st.length H1) (p : Post K ca rel' α0 N0 H0 (fun c d H' => W c d σ H') Q ((e ρ st).bind f))
    (go : ∀ α2 st2 b g H2, e ρ st = .ok b st2 → At K ca α2 st2 H2 ρ σ → Xt K α st.length H1 α2 st2.length H2 → Xt K α0 N0 H0 α2 st2.length H2 → rel H1 α2 st2.length H2 b g → Post K ca rel' α0 N0 H0 (fun c d H' => W c d σ H') Q (f b st2) → T g H2) :
    tG K ca rel W e σ H1 T := by
  refine ⟨α, st, ρ, a, ?_⟩
  cases q : e ρ st with
  | ok b st1 => rw [q] at p; exact fun α1 H2 g x2 L r => go α1 st1 b g H2 q (a.later x2 L) x2 (x.trans x2) r p
  | exc c fs st1 => rw [q] at p; exact fun α1 H2 dd x2 L r => p α1 H2 dd (x.trans x2) L r
  | bad => rw [q] at p; exact p
def cCall (m : M) (es : List E) : E := fun ρ st => (cArgs es ρ st).bind m
theorem sp_of {n : Nat} {σ : L2.St} {H1 : Hp} {α1 α0 : Nat → Addr} {st1 : Sto} {N0 : Nat} {H0 : Hp} {ds : List D} {vs : List V} {Q : VK} (L : Lk X.K ca α1 st1 H1) (x1 : Xt X.K α0 N0 H0 α1 st1.length H1) (r : RVs X.K α1 st1.length H1 ds vs) (hn : ds.length = n)
    (p : Post X.K ca (relV X.K) α0 N0 H0 (fun c d H' => W c d σ H') Q (m ds st1)) : spOf X.K ca n m vs H1 Q (WE W σ) :=
  ⟨by rw [← r.length]; exact hn, α1, st1, ds, L, r, Post.later relV_ok x1 p⟩
theorem qe_call (F : Fn X.prog X.w X.K X.mg X.base ca k x ps m) (hr : Room k X.A) (ok : Ok X W) (ha : QA X ca W (a :: es) (cArgs ees)) (hg : Gl X x) (hn : ees.length = ps.length := by rfl) (hdb : (x == ("__debug__" : Str)) = false := by decide)
    (he : starEach (a :: es) X.env = (false, eval a X.env) :: starEach es X.env := by rfl) (hpl : (backTo pos (starEach es X.env)).any (·.1) = false := by rfl) : QE X ca W (.Call (.Name x p0) (a :: es) [] pos) (cCall m ees) := by
  obtain ⟨f, fd, h1, h2, h3, h4⟩ := F
  exact peW (pe_callS h4 hr hg h1 h2 h3 (fun σ => passAt ok.tk σ) ha hdb he hpl) fun σ H Q ⟨α, st, ρ, at0, p⟩ => tG_next2 at0 .refl p fun α1 st1 ds vs H1 q a1 x1 r1 p1 => sp_of a1.lk x1 r1 ((cArgs_length q).trans hn) p1
theorem pe_callS0 {CX : CXT} {f : Addr} {fd : FuncData} {sp : Sp} {E : L2.St → XK} {p pos : Pos} (F : FnOk X.prog X.w X.K X.mg X.base CX k f fd ps sp) (hr : Room k X.A) (hg : Gl X x) (hm : X.mg x = some (.ref f)) (hk : PySem.W.keepIn X.K (.ref f) = true) (hb : Binds X.K fd ps []) (hx : ∀ σ, PassesAt CX X σ (E σ))
    (hdb : (x == ("__debug__" : Str)) = false := by decide) : PE X (.Call (.Name x p) [] [] pos) (fun σ H Q => sp [] H Q (E σ)) := by
  refine ⟨fun pins s σ H Q I h => ?_⟩
  refine wpAny_Call_Name_kw (ld_glob I hg hm ?_ hdb)
  exact PySem.W.callWith_K0 I.kIn hk (run_fnS (us := []) F hr hb (hx σ) I .nil h)
theorem qe_call0 (F : Fn X.prog X.w X.K X.mg X.base ca k x ps m) (hr : Room k X.A) (ok : Ok X W) (hg : Gl X x) (hn : ([] : List E).length = ps.length := by rfl) (hdb : (x == ("__debug__" : Str)) = false := by decide) : QE X ca W (.Call (.Name x p0) [] [] pos) (cCall m []) := by
  obtain ⟨f, fd, h1, h2, h3, h4⟩ := F
  exact peW (pe_callS0 h4 hr hg h1 h2 h3 (fun σ => passAt ok.tk σ) hdb) fun σ H Q ⟨α, st, ρ, at0, p⟩ => sp_of (ds := []) at0.lk .refl .nil hn p
/-- o.m(..) of class c -/
def cMeth (c : Nat) (x : Str) (m : M) (o : E) (es : List E) : E := fun ρ st => (o ρ st).bind fun d st => match d with
  | .loc n => match st[n]? with
    | some (.ins c' fs) => if c' = c ∧ fs.lookup x = none then (cArgs es ρ st).bind fun ds st => m (d :: ds) st else .bad
    | _ => .bad
  | _ => .bad
theorem pe_methS {CX : CXT} {f C : Addr} {fd : FuncData} {sp : Sp} {E : L2.St → XK} {ta : TE} {t : TA} {pl : Sem Bool} (he : PE X o ta) (c : Cls X.K C) (hm : Meth X.K C x f) (F : FnOk X.prog X.w X.K X.mg X.base CX k f fd ps sp) (hr : Room k X.A) (hb : Binds X.K fd ps []) (hx : ∀ σ, PassesAt CX X σ (E σ)) (ha : PA X (a :: es) t)
    (hst : starEach (a :: es) X.env = (false, eval a X.env) :: starEach es X.env := by rfl) (hpl : (backTo pos (starEach es X.env)).any (·.1) = false := by rfl)
    (ht : eval (.Call (.Attribute o x apos) (a :: es) [] pos) X.env = (do
      let ov ← eval o X.env
      standAt apos.atName
      let (f, first) ← holding [ov] (getMethod ov x pl)
      callWith pos f first (backTo pos (starEach (a :: es) X.env)) (backToKw pos (keywordEach [] X.env))) := by rfl) :
    PE X (.Call (.Attribute o x apos) (a :: es) [] pos) (fun σ H Q => ta σ H fun y H1 => ∃ a dx fs, y = .ref a ∧ H1 a = some (.ins C dx fs) ∧ fs.lookup x = none ∧ t σ H1 fun vs H2 => sp (y :: vs) H2 Q (E σ)) := by
  refine ⟨fun pins s σ H Q I h => ?_⟩
  refine PySem.W.methodCall_KW (pl := pl) (thn (he.run pins s σ H _ I h) fun u s1 ⟨y, H1, I1, rx, a, dx, fs, ex, ea, l, q⟩ => ?_) ht
  subst ex
  obtain rfl : u = Value.ref a := rx
  refine getmeth_ok I1 ea c hm l ?_
  refine PySem.W.callWith_K (first := [.ref a]) (h₀ := X.base) I.ok.mod.kin hm.kp (thn (ha.run pos pins s1 σ H1 _ I1 q) fun us s2 ⟨vs, H2, I2, r, q2⟩ => ⟨I2.kIn, ?_⟩) hst hpl
  exact run_fnS (us := .ref a :: us) (vs := .ref a :: vs) F hr hb (hx σ) I2 (.cons rfl r) q2
theorem pe_methS0 {CX : CXT} {f C : Addr} {fd : FuncData} {sp : Sp} {E : L2.St → XK} {ta : TE} {pl : Sem Bool} (he : PE X o ta) (c : Cls X.K C) (hm : Meth X.K C x f) (F : FnOk X.prog X.w X.K X.mg X.base CX k f fd ps sp) (hr : Room k X.A) (hb : Binds X.K fd ps []) (hx : ∀ σ, PassesAt CX X σ (E σ))
    (ht : eval (.Call (.Attribute o x apos) [] [] pos) X.env = (do
      let ov ← eval o X.env
      standAt apos.atName
      let (f, first) ← holding [ov] (getMethod ov x pl)
      callWith pos f first (backTo pos (starEach [] X.env)) (backToKw pos (keywordEach [] X.env))) := by rfl) :
    PE X (.Call (.Attribute o x apos) [] [] pos) (fun σ H Q => ta σ H fun y H1 => ∃ a dx fs, y = .ref a ∧ H1 a = some (.ins C dx fs) ∧ fs.lookup x = none ∧ sp [y] H1 Q (E σ)) := by
  refine ⟨fun pins s σ H Q I h => ?_⟩
  refine PySem.W.methodCall_KW (pl := pl) (thn (he.run pins s σ H _ I h) fun u s1 ⟨y, H1, I1, rx, a, dx, fs, ex, ea, l, q⟩ => ?_) ht
  subst ex
  obtain rfl : u = Value.ref a := rx
  refine getmeth_ok I1 ea c hm l ?_
  exact PySem.W.callWith_K0 (first := [.ref a]) I1.kIn hm.kp (run_fnS (us := [.ref a]) (vs := [.ref a]) F hr hb (hx σ) I1 (.cons rfl .nil) q)
theorem qe_meth {c : Nat} {pl : Sem Bool} (F : Md X.prog X.w X.K X.mg X.base ca k c x ps m) (hr : Room k X.A) (ok : Ok X W) (ho : QE X ca W o eo) (ha : QA X ca W (a :: es) (cArgs ees)) (hn : (eo :: ees).length = ps.length := by rfl)
    (hst : starEach (a :: es) X.env = (false, eval a X.env) :: starEach es X.env := by rfl) (hpl : (backTo pos (starEach es X.env)).any (·.1) = false := by rfl)
    (ht : eval (.Call (.Attribute o x apos) (a :: es) [] pos) X.env = (do
      let ov ← eval o X.env
      standAt apos.atName
      let (f, first) ← holding [ov] (getMethod ov x pl)
      callWith pos f first (backTo pos (starEach (a :: es) X.env)) (backToKw pos (keywordEach [] X.env))) := by rfl) :
    QE X ca W (.Call (.Attribute o x apos) (a :: es) [] pos) (cMeth c x m eo ees) := by
  obtain ⟨f, fd, h1, h2, h3, h4⟩ := F
  refine peW (pe_methS (E := WE W) ho h1 h2 h4 hr h3 (fun σ => passAt ok.tk σ) ha hst hpl ht) fun σ H Q ⟨α, st, ρ, at0, p⟩ => tG_next (rel := relV X.K) at0 .refl p fun α1 st1 d v H1 a1 _ x1 r1 p1 => ?_
  have r1' := r1
  cases r1 <;> try exact False.elim p1
  dsimp only at p1
  split at p1 <;> try exact p1.elim
  rename_i c' fs e
  split at p1 <;> try exact p1.elim
  rename_i hc
  obtain ⟨rfl, hl⟩ := hc
  obtain ⟨dx, gs, g1, q1⟩ := lk_ins a1.lk e
  refine ⟨_, dx, gs, rfl, g1, ?_, tG_next3 a1 x1 p1 fun α2 st2 ds vs H2 q a2 x2 xb r2 p2 => ?_⟩
  · rcases q1.fld x with ⟨_, e2⟩ | ⟨_, _, e1, _⟩
    · exact e2
    · rw [hl] at e1; cases e1
  · exact sp_of a2.lk xb (.cons (r1'.mono x2.toGr) r2) (by rw [List.length_cons, cArgs_length q]; exact hn) p2
theorem qe_meth0 {c : Nat} {pl : Sem Bool} (F : Md X.prog X.w X.K X.mg X.base ca k c x ps m) (hr : Room k X.A) (ok : Ok X W) (ho : QE X ca W o eo) (hn : ([eo] : List E).length = ps.length := by rfl)
    (ht : eval (.Call (.Attribute o x apos) [] [] pos) X.env = (do
      let ov ← eval o X.env
      standAt apos.atName
      let (f, first) ← holding [ov] (getMethod ov x pl)
      callWith pos f first (backTo pos (starEach [] X.env)) (backToKw pos (keywordEach [] X.env))) := by rfl) :
    QE X ca W (.Call (.Attribute o x apos) [] [] pos) (cMeth c x m eo []) := by
  obtain ⟨f, fd, h1, h2, h3, h4⟩ := F
  refine peW (pe_methS0 (E := WE W) ho h1 h2 h4 hr h3 (fun σ => passAt ok.tk σ) ht) fun σ H Q ⟨α, st, ρ, at0, p⟩ => tG_next (rel := relV X.K) at0 .refl p fun α1 st1 d v H1 a1 _ x1 r1 p1 => ?_
  have r1' := r1
  cases r1 <;> try exact False.elim p1
  dsimp only at p1
  split at p1 <;> try exact p1.elim
  rename_i c' fs e
  split at p1 <;> try exact p1.elim
  rename_i hc
  obtain ⟨rfl, hl⟩ := hc
  obtain ⟨dx, gs, g1, q1⟩ := lk_ins a1.lk e
  refine ⟨_, dx, gs, rfl, g1, ?_, sp_of (ds := [_]) a1.lk x1 (.cons r1' .nil) hn p1⟩
  rcases q1.fld x with ⟨_, e2⟩ | ⟨_, _, e1, _⟩
  · exact e2
  · rw [hl] at e1; cases e1
/-- C(..) -/
def nonTo (n : Nat) : D → Sto → R D
  | .non, st => .ok (.loc n) st
  | _, _ => .bad
def cMake (c : Nat) (m : M) (es : List E) : E := fun ρ st => (cArgs es ρ st).bind fun ds st => (m (.loc st.length :: ds) (st ++ [.ins c []])).bind (nonTo st.length)
theorem run_makeS {CX : CXT} {f C : Addr} {fd : FuncData} {sp : Sp} {E : XK} {pins : List (Addr × Obj)} {σ : L2.St} {H : Hp} {s : Shared} {Q : VK} {us : List Value} {vs : List V} (M : Mk X.K C f) (F : FnOk X.prog X.w X.K X.mg X.base CX k f fd ps sp) (hr : Room (k + 1) X.A) (hb : Binds X.K fd ps [])
    (hx : PassesAt CX X σ E) (I : Inv X pins σ H s) (r : Vals vs us)
    (h : ∀ x dx, H x = none → H dx = none → dx ≠ x → sp (.ref x :: vs) (upd (upd H dx (.own x)) x (.ins C dx [])) (fun v H2 => v = .non ∧ Q (.ref x) H2) E) :
    wpAny (model X.prog X.w) X.A (call (.ref C) us) (EP X pins σ Q) X.xe s := by
  have hq := h (s.heap.objs.size + 1) s.heap.objs.size (I.hok.fresh (Nat.le_succ _)) (I.hok.fresh (Nat.le_refl _)) (Nat.ne_of_lt (Nat.lt_succ_self _))
  have I2 := Inv.made (C := C) I
  have r2 : Vals (V.ref (s.heap.objs.size + 1) :: vs) (Value.ref (s.heap.objs.size + 1) :: us) := .cons rfl r
  have hl : (Value.ref (s.heap.objs.size + 1) :: us).length = ps.length := by
    have e := r2.length
    rw [F.len _ _ _ _ hq] at e
    exact e.symm
  have b := hb _ (Value.ref (s.heap.objs.size + 1) :: us) I2.kIn (by rw [List.append_nil]; exact hl)
  rw [List.append_nil] at b
  refine wpAny_call (make_map (f := f) I.kIn M.makes M.init (beq_iff_eq.mp M.fn) (codeAny_mono (F.run _ X.stack _ _ ⟨Value.ref (s.heap.objs.size + 1) :: us, []⟩ (Value.ref (s.heap.objs.size + 1) :: us) _ _ E (hr.make C us [])
    (I2.env0.make C us []) b r2 hq) fun r s' hq' => ?_))
  cases r with
  | error e => exact hx pins _ _ e s' I2 hq'
  | ok fl =>
    cases fl with
    | ret u =>
      obtain ⟨v, H', I3, rv, ev, q3⟩ := I2.after hq'
      subst ev
      exact ⟨rv, ⟨V.ref (s.heap.objs.size + 1), H', I3, rfl, q3⟩⟩
    | next => exact False.elim hq'
    | brk => exact False.elim hq'
    | cont => exact False.elim hq'
theorem pe_makeS {CX : CXT} {f C : Addr} {fd : FuncData} {sp : Sp} {E : L2.St → XK} {t : TA} (M : Mk X.K C f) (F : FnOk X.prog X.w X.K X.mg X.base CX k f fd ps sp) (hr : Room (k + 1) X.A) (hg : Gl X x) (hm : X.mg x = some (.ref C)) (hb : Binds X.K fd ps []) (hx : ∀ σ, PassesAt CX X σ (E σ))
    (ha : PA X (a :: es) t) (hdb : (x == ("__debug__" : Str)) = false := by decide) (he : starEach (a :: es) X.env = (false, eval a X.env) :: starEach es X.env := by rfl) (hpl : (backTo pos (starEach es X.env)).any (·.1) = false := by rfl) :
    PE X (.Call (.Name x p0) (a :: es) [] pos) (fun σ H Q => t σ H fun vs H1 => ∀ x dx, H1 x = none → H1 dx = none → dx ≠ x → sp (.ref x :: vs) (upd (upd H1 dx (.own x)) x (.ins C dx [])) (fun v H2 => v = .non ∧ Q (.ref x) H2) (E σ)) := by
  refine ⟨fun pins s σ H Q I h => ?_⟩
  refine wpAny_Call_Name_kw (ld_glob I hg hm ?_ hdb)
  refine PySem.W.callWith_K (h₀ := X.base) I.ok.mod.kin M.kp (thn (ha.run pos pins s σ H _ I h) fun us s1 ⟨vs, H1, I1, r, q⟩ => ⟨I1.kIn, ?_⟩) he hpl
  exact run_makeS M F hr hb (hx σ) I1 r q
theorem pe_makeS0 {CX : CXT} {f C : Addr} {fd : FuncData} {sp : Sp} {E : L2.St → XK} (M : Mk X.K C f) (F : FnOk X.prog X.w X.K X.mg X.base CX k f fd ps sp) (hr : Room (k + 1) X.A) (hg : Gl X x) (hm : X.mg x = some (.ref C)) (hb : Binds X.K fd ps []) (hx : ∀ σ, PassesAt CX X σ (E σ))
    (hdb : (x == ("__debug__" : Str)) = false := by decide) :
    PE X (.Call (.Name x p0) [] [] pos) (fun σ H1 Q => ∀ x dx, H1 x = none → H1 dx = none → dx ≠ x → sp [.ref x] (upd (upd H1 dx (.own x)) x (.ins C dx [])) (fun v H2 => v = .non ∧ Q (.ref x) H2) (E σ)) := by
  refine ⟨fun pins s σ H Q I h => ?_⟩
  refine wpAny_Call_Name_kw (ld_glob I hg hm ?_ hdb)
  exact PySem.W.callWith_K0 I.kIn M.kp (run_makeS (us := []) (vs := []) M F hr hb (hx σ) I .nil h)
theorem make_ok {c : Nat} {n : Nat} {σ : L2.St} {H1 : Hp} {α1 α0 : Nat → Addr} {st1 : Sto} {N0 : Nat} {H0 : Hp} {ds : List D} {vs : List V} {Q : VK} (L : Lk X.K ca α1 st1 H1) (x1 : Xt X.K α0 N0 H0 α1 st1.length H1) (r : RVs X.K α1 st1.length H1 ds vs) (hn : ds.length + 1 = n)
    (p : Post X.K ca (relV X.K) α0 N0 H0 (fun c d H' => W c d σ H') Q ((m (.loc st1.length :: ds) (st1 ++ [.ins c []])).bind (nonTo st1.length))) :
    ∀ x dx, H1 x = none → H1 dx = none → dx ≠ x → spOf X.K ca n m (.ref x :: vs) (upd (upd H1 dx (.own x)) x (.ins (ca c) dx [])) (fun v H2 => v = .non ∧ Q (.ref x) H2) (WE W σ) := by
  intro x dx hx hdx hne
  have hx' : upd H1 dx (.own x) x = none := by rw [upd_ne (Ne.symm hne)]; exact hx
  have Ld := L.temp (ho := .own x) hdx
  have xd := xt_new (K := X.K) (α := α1) (N := st1.length) (ho := .own x) hdx
  obtain ⟨L2, x2⟩ := Ld.alloc hx' (o := .ins c []) (.ins (dx := dx) .nil)
  have xx := (x1.trans xd).trans x2
  refine ⟨by rw [List.length_cons, ← r.length]; exact hn, ext α1 st1.length x, st1 ++ [.ins c []], .loc st1.length :: ds, L2, .cons ?_ (r.mono (xd.trans x2).toGr), ?_⟩
  · have e : V.ref x = V.ref (ext α1 st1.length x st1.length) := by rw [ext_at]
    rw [e]
    exact .loc (by simp)
  · have p := Post.later relV_ok xx p
    revert p
    cases m (.loc st1.length :: ds) (st1 ++ [.ins c []]) with
    | ok d st' =>
      intro p α' H' g x3 L3 r3
      cases r3 <;> try exact False.elim p
      refine ⟨rfl, p α' H' _ x3 L3 ?_⟩
      have e : V.ref x = V.ref (α' st1.length) := by rw [x3.ag st1.length (by simp), ext_at]
      rw [e]
      exact .loc (Nat.lt_of_lt_of_le (by simp) x3.le)
    | exc c fs st' => exact fun p => p
    | bad => exact fun p => p
theorem qe_make {c : Nat} (F : Cm X.prog X.w X.K X.mg X.base ca k c x ps m) (hr : Room (k + 1) X.A) (ok : Ok X W) (ha : QA X ca W (a :: es) (cArgs ees)) (hg : Gl X x) (hn : ees.length + 1 = ps.length := by rfl) (hdb : (x == ("__debug__" : Str)) = false := by decide)
    (he : starEach (a :: es) X.env = (false, eval a X.env) :: starEach es X.env := by rfl) (hpl : (backTo pos (starEach es X.env)).any (·.1) = false := by rfl) : QE X ca W (.Call (.Name x p0) (a :: es) [] pos) (cMake c m ees) := by
  obtain ⟨f, fd, h1, h2, h3, h4⟩ := F
  exact peW (pe_makeS (E := WE W) h2 h4 hr hg h1 h3 (fun σ => passAt ok.tk σ) ha hdb he hpl) fun σ H Q ⟨α, st, ρ, at0, p⟩ => tG_next2 at0 .refl p fun α1 st1 ds vs H1 q a1 x1 r1 p1 => make_ok a1.lk x1 r1 (by rw [cArgs_length q]; exact hn) p1
theorem qe_make0 {c : Nat} (F : Cm X.prog X.w X.K X.mg X.base ca k c x ps m) (hr : Room (k + 1) X.A) (ok : Ok X W) (hg : Gl X x) (hn : 1 = ps.length := by rfl) (hdb : (x == ("__debug__" : Str)) = false := by decide) : QE X ca W (.Call (.Name x p0) [] [] pos) (cMake c m []) := by
  obtain ⟨f, fd, h1, h2, h3, h4⟩ := F
  exact peW (pe_makeS0 (E := WE W) h2 h4 hr hg h1 h3 (fun σ => passAt ok.tk σ) hdb) fun σ H Q ⟨α, st, ρ, at0, p⟩ => make_ok (ds := []) at0.lk .refl .nil hn p

/-! ### errors -/
/-- an error class of the program, over ValueError, without own __init__ -/
structure ExC (X : Cx) (ca : Nat → Addr) (c : Nat) (x : Str) : Prop where
  g : X.mg x = some (.ref (ca c))
  q : PySem.W.excIn X.K (ca c) [.type "ValueError", .type "Exception", .type "BaseException", .type "object"] "ValueError.__new__" = true
  k : PySem.W.keepIn X.K (.ref (ca c)) = true
  b : PySem.W.subIn X.K (.ref (ca c)) (.type "BaseException") = some true
  t : PySem.W.typeIn X.K (.ref (ca c)) = some (.type "type")
theorem pmk_own0 {c : Nat} (ex : ExC X ca c x) (hg : Gl X x) (hdb : (x == ("__debug__" : Str)) = false := by decide) : PMk X (.Call (.Name x p0) [] [] pos) (fun _ H Q => Q (.ref (ca c)) none H) := by
  intro pins s σ H Q I h
  refine wpAny_Call_Name_kw (ld_glob I hg ex.g ?_ hdb)
  refine PySem.W.callWith_K0 I.kIn ex.k ?_
  show wpAny _ _ (call (.ref (ca c)) []) _ _ _
  obtain ⟨bm, N, nm, qn, bs, hdct, sn, sub, ab, col, dd, k0, k1, k2, k3, k5, mN, hC, hN, hni, T⟩ := exc_obj I.kIn ex.q
  refine wpAny_call_exc_subT PySem.F.excBase_ValueError T hC hN hni (fun h' e hm => ?_) (by show 0 ≤ sizeLine; exact Nat.zero_le _)
  exact mk_of I hm (raises_own ex.b ex.t) h (I.hok.gone hm.new)
def sRaise (c : Nat) : S := fun ρ st => .exc c [] ρ st
theorem qf_raise0 {c : Nat} {pos' : Pos} (o : Ok X W) (ex : ExC X ca c x) (hg : Gl X x) (hdb : (x == ("__debug__" : Str)) = false := by decide) : QF X ca W (.Raise (some (.Call (.Name x p0) [] [] pos)) none pos') (sRaise c) :=
  psW (ps_raise o.calm o.tk (pmk_own0 ex hg hdb)) fun E σ H ⟨α, st, ρ, at0, p⟩ => p α H σ none .refl at0 (.inl ⟨rfl, rfl⟩)
/-- a suite from which nothing is raised -/
def fNx : F → F
  | .exc _ _ _ _ => .bad
  | f => f
def sTry (mt : Nat → Option Bool) (body h : S) : S := fun ρ st => match body ρ st with
  | .exc c fs ρ' st' => match mt c with
    | some true => fNx (h ρ' st')
    | some false => .exc c fs ρ' st'
    | none => .bad
  | f => f
theorem fNx_ok {K : Frag} {α : Nat → Addr} {N : Nat} {H : Hp} {E : Ends} {f : F} (p : FPost K ca α N H W E (fNx f)) : FPost K ca α N H W0 E f := by
  cases f <;> first | exact p | exact False.elim p
theorem qf_try {body suite : List Stmt} {b₀ : Stmt} {sb sh : S} {np pos' : Pos} {cv : Value} {mt : Nat → Option Bool} (o : Ok X W) (hs : X.stack = X.env :: X.outer) (hf : X.env.frame = some X.env.locals) (hc : Names X x cv) (hm : ∀ c b, mt c = some b → PySem.W.exmOne X.K (.ref (ca c)) cv = some b)
    (hb : ∀ (W' : WX) (pn : List (Addr × Obj)) (xe : Value → Shared → Prop), Ok (X.tr pn xe) W' → QFs (X.tr pn xe) ca W' body sb)
    (hsu : ∀ (a : Addr) (oe : Obj) (cls : Value) (d : Option Addr) (pn : List (Addr × Obj)), QFs (X.suite a ((a, oe) :: pn)) ca W0 (b₀ :: suite) sh) :
    QF X ca W (.Try body [.ExceptHandler (some (.Name x np)) none (b₀ :: suite) pos'] [] [] pos) (sTry mt sb sh) :=
  psW (ps_try_only (tb := fun W' => tF X.K ca W' sb) (ts := fun _ _ _ => tF X.K ca W0 sh) hs hf hc o.tk (fun W' pn xe tk hp => hb W' pn xe ⟨tk, hp, o.calm⟩) (fun a oe cls d pn _ _ => hsu a oe cls d pn)) fun E σ H ⟨α, st, ρ, at0, p⟩ => by
    refine ⟨α, st, ρ, at0, ?_⟩
    unfold sTry at p
    revert p
    cases sb ρ st with
    | nx ρ' st' => exact fun p => p
    | bk ρ' st' => exact fun p => p
    | ct ρ' st' => exact fun p => p
    | rt d st' => exact fun p => p
    | bad => exact fun p => p
    | exc c fs ρ' st' =>
      intro p α' H' σ' dd x' a' xd
      dsimp only at p
      cases em : mt c with
      | none => rw [em] at p; exact p.elim
      | some b =>
        rw [em] at p
        refine ⟨b, hm c b em, fun hb _ _ => ?_, fun hb => ?_⟩
        · subst hb
          exact ⟨α', st', ρ', a', (fNx_ok p).later x'⟩
        · subst hb
          exact p α' H' σ' dd x' a' xd
end
end PM

set_option Elab.async false
set_option linter.all false
set_option maxRecDepth 100000
set_option maxHeartbeats 4000000
/-! PM8: in, dicts. -/
namespace PM
open PySem PySem.Spec PyProof.Rows L2
section
variable {X : Cx} {ca : Nat → Addr} {W : WX} {a b c o : Expr} {ea eb ec eo : E} {pos : Pos} {es : List Expr} {x : Str} {p0 apos cpos : Pos}

/-! ### in -/
def flatD : D → Bool
  | .non => true | .bl _ => true | .int _ => true | .str _ => true
  | _ => false
/-- == of flat values -/
def eqF : D → D → Bool
  | .non, .non => true
  | .bl a, .bl b => a == b
  | .bl a, .int b => (if a then 1 else 0) == b
  | .int a, .bl b => a == (if b then 1 else 0)
  | .int a, .int b => a == b
  | .str a, .str b => a == b
  | _, _ => false
theorem flatD_ok {K : Frag} {α : Nat → Addr} {N : Nat} {H : Hp} {d : D} {v : V} (r : RV K α N H d v) (h : flatD d = true) : flatV v = true := by cases r <;> first | rfl | cases h
theorem flatAll_ok {K : Frag} {α : Nat → Addr} {N : Nat} {H : Hp} : ∀ {d : List D} {v : List V}, RVs K α N H d v → d.all flatD = true → v.all flatV = true
  | _, _, .nil, _ => rfl
  | _, _, .cons h r, e => by
    rw [List.all_cons, Bool.and_eq_true] at e ⊢
    exact ⟨flatD_ok h e.1, flatAll_ok r e.2⟩
theorem eqF_ok {K : Frag} {α : Nat → Addr} {N : Nat} {H : Hp} {d e : D} {v u : V} (r : RV K α N H d v) (q : RV K α N H e u) (h : flatD d = true) (h' : flatD e = true) : eqV v u = eqF d e := by
  cases r <;> first | exact absurd h Bool.false_ne_true | (cases q <;> first | exact absurd h' Bool.false_ne_true | rfl)
theorem inF_ok {K : Frag} {α : Nat → Addr} {N : Nat} {H : Hp} {d : D} {v : V} (r : RV K α N H d v) (h : flatD d = true) : ∀ {ds : List D} {vs : List V}, RVs K α N H ds vs → ds.all flatD = true → inV v vs = ds.any fun y => eqF y d
  | _, _, .nil, _ => rfl
  | _, _, .cons h1 r1, e => by
    rw [List.all_cons, Bool.and_eq_true] at e
    unfold inV
    rw [List.any_cons, List.any_cons, eqF_ok h1 r e.1 h]
    exact congrArg _ (inF_ok r h r1 e.2)
/-- whether x is among xs, where that is told; t: the sequence is a tuple -/
def inSeq (x : D) (xs : List D) : Option Bool :=
  if (flatD x && xs.all flatD) = true then some (xs.any fun y => eqF y x) else
  match pd x, pdAll xs with
  | some a, some ds => if SeqAt.shaped a = true ∧ PyData.canLayAll0 ds = true then some (ds.any fun z => PyData.eqv z a) else none
  | _, _ => none
def inO (x y : D) (st : Sto) : Option Bool := match y with
  | .tup xs => inSeq x xs
  | .con xs => inSeq x xs
  | .str z => match x with
    | .str t => some (!(Builtin.Str.occurrences z t 0 z.length 1).isEmpty)
    | _ => none
  | .loc n => match st[n]? with
    | some (.lst xs) => inSeq x xs
    | some (.dct kvs) => (keyD x).map fun k => (valD kvs k).isSome
    | some (.fdc kvs) => (keyD x).map fun k => (valD kvs k).isSome
    | _ => none
  | _ => none
def inD : D → D → Sto → R D := fun x y st => match inO x y st with
  | some b => .ok (.bl b) st
  | none => .bad
def notInD : D → D → Sto → R D := fun x y st => match inO x y st with
  | some b => .ok (.bl (!b)) st
  | none => .bad
theorem room_in {A : Around} {d : PyData} {ds : List PyData} (h : SeqAt.shaped d = true) (hu : A.units + 65 < cLine) : A.units + 1 + min (PyData.depthAll ds) d.depth < cLine := by
  have h1 := SeqAt.depth_of_shaped h
  have h2 : min (PyData.depthAll ds) d.depth ≤ d.depth := Nat.min_le_right _ _
  omega
/-- the four ways of in, by values -/
def rInAny (K : Frag) (neg : Bool) : R2 := fun x y H Q => rIn K neg x y H Q ∨
  (∃ d ds, Dp K H x d ∧ (Dp K H y (.list ds) ∨ Dp K H y (.tuple ds)) ∧ SeqAt.shaped d = true ∧ PyData.canLayAll0 ds = true ∧ Q (.bl (neg ^^ ds.any fun z => PyData.eqv z d)) H) ∨
  (∃ i j, x = .str i ∧ y = .str j ∧ Q (.bl (neg ^^ !(Builtin.Str.occurrences j i 0 j.length 1).isEmpty)) H) ∨
  (∃ a ov, y = .ref a ∧ DGet H a x ov ∧ Q (.bl (neg ^^ ov.isSome)) H)
theorem op_inAny (hu : X.A.units + 65 < cLine) : OpR X (compareOp .In) (rInAny X.K false) := by
  intro pins s σ H x y v u Q I rx ry h
  rcases h with h | ⟨d, ds, hd, he, sd, se, q⟩ | ⟨i, j, rfl, rfl, q⟩ | ⟨a, ov, rfl, g, q⟩
  · exact op_in_seq pins s σ H x y v u Q I rx ry h
  · obtain ⟨as, r1⟩ := Dp.reads I d x v hd rx
    rw [Bool.false_xor] at q
    rcases he with he | he
    · obtain ⟨bs, r2⟩ := Dp.reads I _ y u he ry
      exact SeqAt.in_list_reads r2 r1 se (SeqAt.canLay_of_shaped sd) (room_in sd hu) ⟨.bl _, H, I, rfl, q⟩
    · obtain ⟨bs, r2⟩ := Dp.reads I _ y u he ry
      exact SeqAt.in_tuple_reads r2 r1 se (SeqAt.canLay_of_shaped sd) (room_in sd hu) ⟨.bl _, H, I, rfl, q⟩
  · rw [Bool.false_xor] at q
    exact op_in_str pins s σ H _ _ v u Q I rx ry ⟨i, j, rfl, rfl, q⟩
  · rw [Bool.false_xor] at q
    cases ry
    exact d_in (by omega) I g rx fun s' I' => ⟨.bl _, H, I', rfl, q⟩
theorem op_notInAny (hu : X.A.units + 65 < cLine) : OpR X (compareOp .NotIn) (rInAny X.K true) := by
  intro pins s σ H x y v u Q I rx ry h
  rcases h with h | ⟨d, ds, hd, he, sd, se, q⟩ | ⟨i, j, rfl, rfl, q⟩ | ⟨a, ov, rfl, g, q⟩
  · exact op_notIn_seq pins s σ H x y v u Q I rx ry h
  · obtain ⟨as, r1⟩ := Dp.reads I d x v hd rx
    rw [Bool.true_xor] at q
    rcases he with he | he
    · obtain ⟨bs, r2⟩ := Dp.reads I _ y u he ry
      exact SeqAt.notIn_list_reads r2 r1 se (SeqAt.canLay_of_shaped sd) (room_in sd hu) ⟨.bl _, H, I, rfl, q⟩
    · obtain ⟨bs, r2⟩ := Dp.reads I _ y u he ry
      exact SeqAt.notIn_tuple_reads r2 r1 se (SeqAt.canLay_of_shaped sd) (room_in sd hu) ⟨.bl _, H, I, rfl, q⟩
  · rw [Bool.true_xor] at q
    exact op_notin_str pins s σ H _ _ v u Q I rx ry ⟨i, j, rfl, rfl, q⟩
  · rw [Bool.true_xor] at q
    cases ry
    exact d_notIn (by omega) I g rx fun s' I' => ⟨.bl _, H, I', rfl, q⟩
theorem inSeq_ok {K : Frag} {α : Nat → Addr} {N : Nat} {H : Hp} {d : D} {v : V} {xs : List D} {p : Addr} {vs : List V} {k neg : Bool} {Q : VK} (r1 : RV K α N H d v) (h : SqL K H p vs ∨ SqT K H p vs) (r : RVs K α N H xs vs) (e : inSeq d xs = some k) (q : Q (.bl (neg ^^ k)) H) :
    rInAny K neg v (.ref p) H Q := by
  unfold inSeq at e
  split at e
  · rename_i hf
    cases e
    rw [Bool.and_eq_true] at hf
    refine .inl ⟨p, vs, rfl, h, flatD_ok r1 hf.1, flatAll_ok r hf.2, ?_⟩
    rw [inF_ok r1 hf.1 r hf.2]
    cases neg
    · simpa using q
    · simpa using q
  · split at e <;> try cases e
    rename_i a ds e1 e2
    split at e <;> try cases e
    rename_i hz
    exact .inr (.inl ⟨a, ds, pd_ok r1 e1, h.elim (fun h => .inl (.lst h (pdAll_ok r e2))) (fun h => .inr (.tup h (pdAll_ok r e2))), hz.1, hz.2, q⟩)
theorem inO_ok {α : Nat → Addr} {st : Sto} {H : Hp} {dx dy : D} {vx vy : V} {k neg : Bool} {Q : VK} (L : Lk X.K ca α st H) (r1 : RV X.K α st.length H dx vx) (r2 : RV X.K α st.length H dy vy) (e : inO dx dy st = some k) (q : Q (.bl (neg ^^ k)) H) : rInAny X.K neg vx vy H Q := by
  cases r2 <;> try cases e
  · simp only [inO] at e
    split at e <;> try cases e
    cases r1
    exact .inr (.inr (.inl ⟨_, _, rfl, rfl, q⟩))
  · rename_i h r
    exact inSeq_ok r1 (.inr h) r e q
  · rename_i h r
    exact inSeq_ok r1 (.inl h.sq) r e q
  · rename_i n hn
    simp only [inO] at e
    have dk : ∀ {kvs : List (Key × D)} {ks : List (Key × V)}, RKs X.K α st.length H kvs ks → Rd H (α n) (.dK ks) → ((keyD dx).map fun k => (valD kvs k).isSome) = some k → rInAny X.K neg vx (.ref (α n)) H Q := fun {kvs ks} r h e => by
      obtain ⟨k', e1, e2⟩ := Option.map_eq_some_iff.mp e
      refine .inr (.inr (.inr ⟨_, valV ks k', rfl, .inl ⟨ks, k', h, keyD_ok r1 e1, rfl⟩, ?_⟩))
      have : (valV ks k').isSome = k := by
        rw [← e2]
        rcases r.val k' with ⟨z1, z2⟩ | ⟨_, _, z1, z2, _⟩ <;> rw [z1, z2] <;> rfl
      rw [this]
      exact q
    split at e <;> try cases e
    · rename_i xs q1
      obtain ⟨vs, h1, q1⟩ := lk_lst L q1
      exact inSeq_ok r1 (.inl (.inl (.inl h1))) q1 e q
    · rename_i xs q1
      obtain ⟨ho, h1, q1⟩ := L.at_ _ _ q1
      cases q1 with
      | dct q1 => exact dk q1 (.inl h1) e
    · rename_i xs q1
      obtain ⟨ho, h1, q1⟩ := L.at_ _ _ q1
      cases q1 with
      | fdc q1 => exact dk q1 (.inr ⟨_, h1⟩) e
theorem d_in' (hu : X.A.units + 65 < cLine) : OpR X (compareOp .In) (rD2 X.K ca inD) := by
  intro pins s σ H x y v u Q I rx ry ⟨α, st, α0, N0, H0, dx, dy, W, L, xt, r1, r2, p⟩
  unfold inD at p
  cases e : inO dx dy st with
  | none => rw [e] at p; exact p.elim
  | some k =>
    rw [e] at p
    exact op_inAny hu pins s σ H x y v u Q I rx ry (inO_ok L r1 r2 e (by rw [Bool.false_xor]; exact p α H _ xt L (.bl _)))
theorem d_notIn' (hu : X.A.units + 65 < cLine) : OpR X (compareOp .NotIn) (rD2 X.K ca notInD) := by
  intro pins s σ H x y v u Q I rx ry ⟨α, st, α0, N0, H0, dx, dy, W, L, xt, r1, r2, p⟩
  unfold notInD at p
  cases e : inO dx dy st with
  | none => rw [e] at p; exact p.elim
  | some k =>
    rw [e] at p
    exact op_notInAny hu pins s σ H x y v u Q I rx ry (inO_ok L r1 r2 e (by rw [Bool.true_xor]; exact p α H _ xt L (.bl _)))
/-- x in a list in passing -/
def cInL (neg : Bool) (a : E) (b : EL) : E := fun ρ st => (a ρ st).bind fun x st => (b ρ st).bind fun ys st => match inSeq x ys with
  | some k => .ok (.bl (neg ^^ k)) st
  | none => .bad
theorem inL_ok {K : Frag} {e2 : EL} {neg : Bool} {σ : L2.St} {H : Hp} {Q : VK} (h : tG K ca (relV K) W (cInL neg ea e2) σ H Q) : tOp (rInAny K neg) (tG K ca (relV K) W ea) (tG K ca (relS K) W e2) σ H Q := by
  obtain ⟨α, st, ρ, at0, p⟩ := h
  refine tG_next (rel := relV K) at0 .refl p fun α1 st1 d v H1 a1 _ x1 r1 p1 => tG_next a1 x1 p1 fun α2 st2 ys u H2 a2 x2 xb r2 p2 => ?_
  obtain ⟨q, vs, rfl, h, r⟩ := r2
  cases e : inSeq d ys with
  | none => rw [e] at p2; exact p2.elim
  | some k =>
    rw [e] at p2
    exact inSeq_ok (r1.mono x2.toGr) h r e (p2 α2 H2 _ xb a2.lk (.bl _))
theorem qe_inL {e2 : EL} (hu : X.A.units + 65 < cLine) (ha : QE X ca W a ea) (hb : QS X ca W b e2) (hm : behindInMarks .In b = false := by rfl) : QE X ca W (.Compare a [.In] [b] pos) (cInL false ea e2) :=
  peW (pe_cmpR (op_inAny hu) ha hb hm) fun σ H Q h => inL_ok h
theorem qt_inL {e2 : EL} (hu : X.A.units + 65 < cLine) (ha : QE X ca W a ea) (hb : QS X ca W b e2) (hm : behindInMarks .In b = false := by rfl) : QT X ca W (.Compare a [.In] [b] pos) (cTst (cInL false ea e2)) :=
  ptW (pt_cmpR (op_inAny hu) ha hb hm) fun σ H Q h => inL_ok (tG_tst h)
theorem qe_notInL {e2 : EL} (hu : X.A.units + 65 < cLine) (ha : QE X ca W a ea) (hb : QS X ca W b e2) (hm : behindInMarks .NotIn b = false := by rfl) : QE X ca W (.Compare a [.NotIn] [b] pos) (cInL true ea e2) :=
  peW (pe_cmpR (op_notInAny hu) ha hb hm) fun σ H Q h => inL_ok h
theorem qt_notInL {e2 : EL} (hu : X.A.units + 65 < cLine) (ha : QE X ca W a ea) (hb : QS X ca W b e2) (hm : behindInMarks .NotIn b = false := by rfl) : QT X ca W (.Compare a [.NotIn] [b] pos) (cTst (cInL true ea e2)) :=
  ptW (pt_cmpR (op_notInAny hu) ha hb hm) fun σ H Q h => inL_ok (tG_tst h)

/-! ### new dicts -/
/-- a dict in passing -/
def relD (K : Frag) : Rel (List (Key × D)) V := fun H0 α N H xs v => ∃ p vs, v = .ref p ∧ H0 p = none ∧ H p = some (.dK vs) ∧ RKs K α N H xs vs ∧ ∀ n, n < N → α n ≠ p
abbrev ED := Env → Sto → R (List (Key × D))
def QD (X : Cx) (ca : Nat → Addr) (W : WX) (x : Expr) (e : ED) : Prop := PE X x (tG X.K ca (relD X.K) W e)
/-- .. kept -/
def cNewD (e : ED) : E := fun ρ st => (e ρ st).bind fun xs st => .ok (.loc st.length) (st ++ [.dct xs])
theorem qe_newD {e : ED} (h : QD X ca W a e) : QE X ca W a (cNewD e) :=
  peW h fun σ H Q ⟨α, st, ρ, at0, p⟩ => tG_next at0 .refl p fun α1 st1 ds v H1 a1 _ x1 r1 p1 => by
    obtain ⟨p, vs, rfl, h0, h1, r, hn⟩ := r1
    obtain ⟨L2, x2⟩ := a1.lk.adopt h1 hn (.dct r) x1 h0
    refine p1 _ H1 _ x2 L2 ?_
    have e : V.ref p = V.ref (ext α1 st1.length p st1.length) := by rw [ext_at]
    rw [e]
    exact .loc (by simp)
theorem fin_newD {K : Frag} {α α0 : Nat → Addr} {st : Sto} {N0 : Nat} {H H0 : Hp} {W : XK} {Q : VK} {xs : List (Key × D)} {vs : List (Key × V)} {p : Addr} (q : Post K ca (relD K) α0 N0 H0 W Q (.ok xs st)) (xt : Xt K α0 N0 H0 α st.length H) (L : Lk K ca α st H)
    (r : RKs K α st.length H xs vs) (hp : H p = none) : Q (.ref p) (upd H p (.dK vs)) :=
  q α _ _ (xt.trans (xt_new hp)) (L.temp hp) ⟨p, vs, rfl, xt.fresh hp, upd_same, r.mono (xt_new hp).toGr, fun n hn e => by
    obtain ⟨x, hx⟩ := L.there hn
    rw [e, hp] at hx; cases hx⟩
def cD0 : ED := fun _ st => .ok [] st
theorem qd_new : QD X ca W (.Dict [] [] pos) cD0 := peW pe_dnewK fun σ H Q ⟨α, st, ρ, a, p⟩ q hq => fin_newD p .refl a.lk .nil hq
/-- {k: v, ..}, written out -/
def cPairs : List (E × E) → ED
  | [] => fun _ st => .ok [] st
  | (k, v) :: r => fun ρ st => (k ρ st).bind fun x st => (v ρ st).bind fun y st => match keyD x with
    | some k => (cPairs r ρ st).bind fun ps st => .ok ((k, y) :: ps) st
    | none => .bad
def mergeD (kvs more : List (Key × D)) : List (Key × D) := more.foldl (fun acc kv => putD acc kv.1 kv.2) kvs
theorem RKs.merge {K : Frag} {α : Nat → Addr} {N : Nat} {H : Hp} : ∀ {more : List (Key × D)} {rs : List (Key × V)} {kvs : List (Key × D)} {vs : List (Key × V)}, RKs K α N H more rs → RKs K α N H kvs vs → RKs K α N H (mergeD kvs more) (mergeK vs rs)
  | _, _, _, _, .nil, q => q
  | (_, _) :: _, _, _, _, .cons (k := k) h r, q => by
    have := RKs.merge r (q.put k h)
    exact this
inductive QPs (X : Cx) (ca : Nat → Addr) (W : WX) : List (Option Expr) → List Expr → List (E × E) → Prop
  | nil : QPs X ca W [] [] []
  | cons {k v : Expr} {ks : List (Option Expr)} {vs : List Expr} {ek ev : E} {r : List (E × E)} : QE X ca W k ek → QE X ca W v ev → QPs X ca W ks vs r → QPs X ca W (some k :: ks) (v :: vs) ((ek, ev) :: r)
def tOfs (K : Frag) (ca : Nat → Addr) (W : WX) : List (E × E) → List (TE × TE) := List.map fun p => (tG K ca (relV K) W p.1, tG K ca (relV K) W p.2)
theorem QPs.pps {ks : List (Option Expr)} {vs : List Expr} {r : List (E × E)} (h : QPs X ca W ks vs r) : PPs X pos ks vs (tOfs X.K ca W r) := by
  induction h with
  | nil => exact pps_nil
  | cons h1 h2 _ ih => exact pps_cons h1 h2 ih
theorem pairs_ok {K : Frag} : ∀ {r : List (E × E)} {σ : L2.St} {H0 H1 : Hp} {Q : VK} {T : List (V × V) → Hp → Prop} {α α0 : Nat → Addr} {st : Sto} {N0 : Nat} {ρ : Env} {f : List (Key × D) → Sto → R (List (Key × D))}, At K ca α st H1 ρ σ → Xt K α0 N0 H0 α st.length H1 →
    Post K ca (relD K) α0 N0 H0 (fun c d H' => W c d σ H') Q ((cPairs r ρ st).bind f) →
    (∀ α2 st2 ps vs H2, At K ca α2 st2 H2 ρ σ → Xt K α st.length H1 α2 st2.length H2 → RKs K α2 st2.length H2 ps vs → ps.length = r.length → Post K ca (relD K) α0 N0 H0 (fun c d H' => W c d σ H') Q (f ps st2) → T (vs.map fun kv => (kV kv.1, kv.2)) H2) →
    tPairs (tOfs K ca W r) σ H1 T
  | [], σ, H0, H1, Q, T, α, α0, st, N0, ρ, f, a, x, p, go => go α st [] [] H1 a .refl .nil rfl p
  | (k, v) :: r, σ, H0, H1, Q, T, α, α0, st, N0, ρ, f, a, x, p, go => by
    simp only [cPairs] at p
    rw [bind_assoc] at p
    refine tG_next (rel := relV K) a x p fun α1 st1 d1 v1 H2 a1 x1 xb1 r1 p1 => ?_
    rw [bind_assoc] at p1
    refine tG_next (rel := relV K) a1 xb1 p1 fun α2 st2 d2 v2 H3 a2 x2 xb2 r2 p2 => ?_
    cases e : keyD d1 with
    | none => rw [e] at p2; exact p2.elim
    | some kk =>
      rw [e] at p2
      dsimp only at p2
      rw [bind_assoc] at p2
      refine pairs_ok (r := r) a2 xb2 p2 fun α3 st3 ps vs H4 a3 x3 r3 hl p3 => ?_
      have e1 := keyD_ok r1 e
      subst e1
      exact go α3 st3 ((kk, d2) :: ps) ((kk, v2) :: vs) H4 a3 ((x1.trans x2).trans x3) (.cons (r2.mono x3.toGr) r3) (by rw [List.length_cons, List.length_cons, hl]) p3
def cDisp (r : List (E × E)) : ED := fun ρ st => (cPairs r ρ st).bind fun ps st => .ok (mergeD [] ps) st
theorem qd_disp {ks : List (Option Expr)} {vs : List Expr} {r : List (E × E)} (h : QPs X ca W ks vs r) (hall : ks.all (·.isSome) = true := by rfl) (hl : ks.length = vs.length := by rfl) (h0 : ks ≠ [] := by intro z; cases z) (h15 : ks.length ≤ 15 := by decide) (h16 : r.length ≤ 15 := by decide) : QD X ca W (.Dict ks vs pos) (cDisp r) :=
  peW (pe_disp h.pps hall hl h0 h15) fun σ H Q ⟨α, st, ρ, at0, p⟩ q hq => by
    have nL : ∀ n, n < st.length → α n ≠ q := fun n hn z => by
      obtain ⟨o, ho⟩ := at0.lk.there hn
      rw [z, hq] at ho; cases ho
    have x0 := xt_new (K := X.K) (α := α) (N := st.length) (ho := .dK []) hq
    refine pairs_ok (at0.later x0 (at0.lk.temp hq)) x0 p fun α2 st2 ps vs H2 a2 x2 r2 hlp p2 => ?_
    have hq2 := x2.keep q _ upd_same nL
    have nL2 : ∀ n, n < st2.length → α2 n ≠ q := fun n hl z => by
      by_cases h1 : n < st.length
      · rw [x2.ag n h1] at z; exact nL n h1 z
      · have := x2.new n (Nat.le_of_not_lt h1) hl
        rw [z, upd_same] at this; cases this
    refine ⟨hq2, vs, rfl, by rw [← r2.length, hlp]; exact h16, ?_⟩
    obtain ⟨g5, L5⟩ := lk_scratch (ho' := .dK (mergeK [] vs)) a2.lk nL2 hq2 (fun _ z => by cases z) (fun _ _ z => by cases z)
    have x5 := xt_scratch (ho' := .dK (mergeK [] vs)) (x0.trans x2) hq nL2 hq2 (fun _ z => by cases z) (fun _ _ z => by cases z)
    exact p2 α2 _ _ x5 L5 ⟨q, _, rfl, hq, upd_same, (RKs.merge r2 .nil).mono g5, nL2⟩
/-- the dict that a value is -/
def dctD : D → Sto → R (List (Key × D))
  | .loc n, st => match st[n]? with
    | some (.dct kvs) => .ok kvs st
    | some (.fdc kvs) => .ok kvs st
    | _ => .bad
  | _, _ => .bad
theorem dctD_ok {K : Frag} {α α0 : Nat → Addr} {st : Sto} {N0 : Nat} {H H0 : Hp} {d : D} {v : V} {β γ : Type} {rel : Rel β γ} {W : XK} {Q : γ → Hp → Prop} {f : List (Key × D) → Sto → R β} (L : Lk K ca α st H) (r : RV K α st.length H d v) (p : Post K ca rel α0 N0 H0 W Q ((dctD d st).bind f)) :
    ∃ q kvs ks, v = .ref q ∧ Rd H q (.dK ks) ∧ RKs K α st.length H kvs ks ∧ Post K ca rel α0 N0 H0 W Q (f kvs st) := by
  cases r <;> try exact False.elim p
  simp only [dctD] at p
  split at p <;> try exact p.elim
  · rename_i xs q1
    obtain ⟨ho, h1, q1⟩ := L.at_ _ _ q1
    cases q1 with
    | dct q1 => exact ⟨_, _, _, rfl, .inl h1, q1, p⟩
  · rename_i xs q1
    obtain ⟨ho, h1, q1⟩ := L.at_ _ _ q1
    cases q1 with
    | fdc q1 => exact ⟨_, _, _, rfl, .inr ⟨_, h1⟩, q1, p⟩
/-- dict(d) -/
def cDict (e : E) : ED := fun ρ st => (e ρ st).bind dctD
theorem bind_ret {β : Type} (r : R β) : r.bind (fun x st => .ok x st) = r := by cases r <;> rfl
theorem qd_dict (ha : QE X ca W a ea) (hg : Gl X "dict") (hm : X.mg "dict" = none) (hs : starEach [a] X.env = (false, eval a X.env) :: starEach [] X.env := by rfl) : QD X ca W (.Call (.Name "dict" p0) [a] [] pos) (cDict ea) :=
  peW (pe_callTy call_dictD hg hm (by decide +kernel) (pa1 ha hs) (by decide) (by decide) hs (by rfl)) fun σ H Q ⟨α, st, ρ, a, p⟩ => tG_next a .refl p fun α1 st1 d v H1 a1 _ x1 r1 p1 => by
    rw [← bind_ret (dctD d st1)] at p1
    obtain ⟨q, kvs, ks, rfl, h, r, p2⟩ := dctD_ok a1.lk r1 p1
    exact ⟨q, ks, rfl, h, fun l hl => fin_newD p2 x1 a1.lk r hl⟩
/-- dict([(k, v), ..]) -/
def prsD : List D → Option (List (Key × D))
  | [] => some []
  | .tup [k, v] :: r => (keyD k).bind fun k => (prsD r).map fun ps => (k, v) :: ps
  | _ :: _ => none
theorem prsD_ok {K : Frag} {α : Nat → Addr} {N : Nat} {H : Hp} : ∀ {xs : List D} {vs : List V} {kvs : List (Key × D)}, RVs K α N H xs vs → prsD xs = some kvs → ∃ ps ks, vs = ps.map V.ref ∧ Paired (fun p kv => SqT K H p [kV kv.1, kv.2]) ps ks ∧ RKs K α N H kvs ks
  | [], _, _, .nil, e => by simp only [prsD, Option.some.injEq] at e; subst e; exact ⟨[], [], rfl, .nil, .nil⟩
  | d :: xs, _, kvs, .cons h r, e => by
    cases h <;> try (simp only [prsD, reduceCtorEq] at e)
    rename_i h r2
    cases r2 with
    | nil => simp only [prsD, reduceCtorEq] at e
    | cons q1 r2 =>
      cases r2 with
      | nil => simp only [prsD, reduceCtorEq] at e
      | cons q2 r2 =>
        cases r2 with
        | cons _ _ => simp only [prsD, reduceCtorEq] at e
        | nil =>
          simp only [prsD] at e
          obtain ⟨k, e1, e2⟩ := Option.bind_eq_some_iff.mp e
          obtain ⟨rs, e3, e4⟩ := Option.map_eq_some_iff.mp e2
          subst e4
          obtain ⟨ps, ks, e5, e6, e7⟩ := prsD_ok r e3
          have ek := keyD_ok q1 e1
          subst ek
          exact ⟨_ :: ps, (k, _) :: ks, by rw [e5]; rfl, .cons h e6, .cons q2 e7⟩
def cDictL (e : EL) : ED := fun ρ st => (e ρ st).bind fun xs st => match prsD xs with
  | some ps => .ok (mergeD [] ps) st
  | none => .bad
theorem qd_dictL {e : EL} (hc : X.calm = true) (ha : QM X ca W a e) (hg : Gl X "dict") (hm : X.mg "dict" = none) (hs : starEach [a] X.env = (false, eval a X.env) :: starEach [] X.env := by rfl) : QD X ca W (.Call (.Name "dict" p0) [a] [] pos) (cDictL e) :=
  peW (pe_callTy (call_dictP hc) hg hm (by decide +kernel) (pa1 ha hs) (by decide) (by decide) hs (by rfl)) fun σ H Q ⟨α, st, ρ, a, p⟩ => tG_next a .refl p fun α1 st1 xs v H1 a1 _ x1 r1 p1 => by
    obtain ⟨q, vs, rfl, h, r⟩ := r1
    cases e : prsD xs with
    | none => rw [e] at p1; exact p1.elim
    | some kvs =>
      rw [e] at p1
      obtain ⟨ps, ks, e1, e2, e3⟩ := prsD_ok r e
      subst e1
      exact ⟨q, ps, ks, rfl, .inl (.inl h), e2, fun l hl => fin_newD p1 x1 a1.lk (RKs.merge e3 .nil) hl⟩
/-- list(d), sorted(d) -/
def kD : Key → D
  | .inl i => .int i
  | .inr z => .str z
theorem keys_rvs {K : Frag} {α : Nat → Addr} {N : Nat} {H : Hp} : ∀ {kvs : List (Key × D)} {ks : List (Key × V)}, RKs K α N H kvs ks → RVs K α N H (kvs.map fun kv => kD kv.1) (ks.map fun kv => kV kv.1)
  | _, _, .nil => .nil
  | _, _, .cons (k := k) h r => by
    rw [List.map_cons, List.map_cons]
    refine .cons ?_ (keys_rvs r)
    cases k with
    | inl i => exact .int i
    | inr z => exact .str z
def cKeys (e : E) : EL := fun ρ st => ((e ρ st).bind dctD).bind fun kvs st => .ok (kvs.map fun kv => kD kv.1) st
theorem ql_listD (hc : X.calm = true) (ha : QE X ca W a ea) (hg : Gl X "list") (hm : X.mg "list" = none) (hs : starEach [a] X.env = (false, eval a X.env) :: starEach [] X.env := by rfl) : QL X ca W (.Call (.Name "list" p0) [a] [] pos) (cKeys ea) :=
  peW (pe_callTy (call_listD hc) hg hm (by decide +kernel) (pa1 ha hs) (by decide) (by decide) hs (by rfl)) fun σ H Q ⟨α, st, ρ, a, p⟩ => by
    have p : Post X.K ca (relL X.K) α st.length H (fun c d H' => W c d σ H') Q (((ea ρ st).bind dctD).bind fun kvs st => .ok (kvs.map fun kv => kD kv.1) st) := p
    rw [bind_assoc] at p
    refine tG_next (rel := relV X.K) a .refl p fun α1 st1 d v H1 a1 _ x1 r1 p1 => ?_
    obtain ⟨q, kvs, ks, rfl, h, r, p2⟩ := dctD_ok a1.lk r1 p1
    exact ⟨q, ks, rfl, h, fun l hl => fin_new p2 x1 a1.lk (keys_rvs r) hl⟩
def intKeys : List (Key × D) → Option (List Int)
  | [] => some []
  | (.inl i, _) :: r => (intKeys r).map (i :: ·)
  | _ :: _ => none
theorem intKeys_ok {K : Frag} {α : Nat → Addr} {N : Nat} {H : Hp} : ∀ {kvs : List (Key × D)} {ks : List (Key × V)} {ns : List Int}, RKs K α N H kvs ks → intKeys kvs = some ns → ks.map (·.1) = ns.map Sum.inl ∧ ks.length = ns.length
  | _, _, _, .nil, e => by simp only [intKeys, Option.some.injEq] at e; subst e; exact ⟨rfl, rfl⟩
  | _, _, _, .cons (k := k) h r, e => by
    cases k <;> simp only [intKeys, reduceCtorEq] at e
    obtain ⟨ms, e1, e2⟩ := Option.map_eq_some_iff.mp e
    subst e2
    obtain ⟨h1, h2⟩ := intKeys_ok r e1
    exact ⟨by rw [List.map_cons, List.map_cons, h1], by rw [List.length_cons, List.length_cons, h2]⟩
def cSortedD (e : E) : EL := fun ρ st => ((e ρ st).bind dctD).bind fun kvs st => match intKeys kvs with
  | some ns => if ns.length < 64 then .ok ((sortI ns).map D.int) st else .bad
  | none => .bad
theorem ql_sortedD (hc : X.calm = true) (ha : QE X ca W a ea) (hg : Gl X "sorted") (hm : X.mg "sorted" = none) (hs : starEach [a] X.env = (false, eval a X.env) :: starEach [] X.env := by rfl) : QL X ca W (.Call (.Name "sorted" p0) [a] [] pos) (cSortedD ea) :=
  peW (pe_callB (call_sortedDI hc) hg hm (by decide +kernel) (pa1 ha hs) (by decide) (by decide) hs (by rfl)) fun σ H Q ⟨α, st, ρ, a, p⟩ => by
    have p : Post X.K ca (relL X.K) α st.length H (fun c d H' => W c d σ H') Q (((ea ρ st).bind dctD).bind fun kvs st => match intKeys kvs with
      | some ns => if ns.length < 64 then .ok ((sortI ns).map D.int) st else .bad
      | none => .bad) := p
    rw [bind_assoc] at p
    refine tG_next (rel := relV X.K) a .refl p fun α1 st1 d v H1 a1 _ x1 r1 p1 => ?_
    obtain ⟨q, kvs, ks, rfl, h, r, p2⟩ := dctD_ok a1.lk r1 p1
    cases e : intKeys kvs with
    | none => rw [e] at p2; exact p2.elim
    | some ns =>
      rw [e] at p2
      dsimp only at p2
      split at p2 <;> try exact p2.elim
      rename_i h64
      obtain ⟨e1, e2⟩ := intKeys_ok r e
      refine ⟨q, ks, ns, rfl, h, e1, h64, fun ys l hp hs hl => ?_⟩
      rw [sortI_uniq hp hs]
      exact fin_new p2 x1 a1.lk (ints_rvs _) hl
/-- d.get(k), d.get(k, y) -/
def cGet (d k : E) : E := fun ρ st => (d ρ st).bind fun x st => (dctD x st).bind fun _ st => (k ρ st).bind fun y st => (dctD x st).bind fun kvs st => match keyD y with
  | some k => .ok ((valD kvs k).getD .non) st
  | none => .bad
def cGet2 (d k z : E) : E := fun ρ st => (d ρ st).bind fun x st => (dctD x st).bind fun _ st => (k ρ st).bind fun y st => (z ρ st).bind fun u st => (dctD x st).bind fun kvs st => match keyD y with
  | some k => .ok ((valD kvs k).getD u) st
  | none => .bad
theorem getD_rel {K : Frag} {α : Nat → Addr} {N : Nat} {H : Hp} {kvs : List (Key × D)} {ks : List (Key × V)} {k : Key} {u : D} {v : V} (r : RKs K α N H kvs ks) (q : RV K α N H u v) : RV K α N H ((valD kvs k).getD u) ((valV ks k).getD v) := by
  rcases r.val k with ⟨e1, e2⟩ | ⟨x, y, e1, e2, r2⟩
  · rw [e1, e2]; exact q
  · rw [e1, e2]; exact r2
theorem qe_get (hu : X.A.units + 1 < cLine) (ho : QE X ca W o eo) (hk : QE X ca W a ea) (m : M1 X o "get" apos a cpos := by exact ⟨rfl, rfl, rfl, rfl⟩) : QE X ca W (.Call (.Attribute o "get" apos) [a] [] cpos) (cGet eo ea) :=
  peW (pe_dget1 hu ho hk m) fun σ H Q ⟨α, st, ρ, at0, p⟩ => tG_next (rel := relV X.K) at0 .refl p fun α1 st1 d v H1 a1 _ x1 r1 p1 => by
    obtain ⟨q, kvs, ks, rfl, h, r, p2⟩ := dctD_ok a1.lk r1 p1
    refine ⟨q, rfl, .inl ⟨ks, h⟩, tG_next (rel := relV X.K) a1 x1 p2 fun α2 st2 y u H2 a2 x2 xb r2 p3 => ?_⟩
    obtain ⟨q', kvs', ks', e', h', r', p4⟩ := dctD_ok a2.lk (r1.mono x2.toGr) p3
    cases e'
    cases e : keyD y with
    | none => rw [e] at p4; exact p4.elim
    | some k =>
      rw [e] at p4
      exact ⟨valV ks' k, .inl ⟨ks', k, h', keyD_ok r2 e, rfl⟩, p4 α2 H2 _ xb a2.lk (getD_rel r' .non)⟩
theorem qe_get2 (hu : X.A.units + 1 < cLine) (ho : QE X ca W o eo) (hk : QE X ca W a ea) (hz : QE X ca W b eb) (m : M2 X o "get" apos a b cpos := by exact ⟨rfl, rfl, rfl, rfl⟩) : QE X ca W (.Call (.Attribute o "get" apos) [a, b] [] cpos) (cGet2 eo ea eb) :=
  peW (pe_dget2 hu ho hk hz m) fun σ H Q ⟨α, st, ρ, at0, p⟩ => tG_next (rel := relV X.K) at0 .refl p fun α1 st1 d v H1 a1 _ x1 r1 p1 => by
    obtain ⟨q, kvs, ks, rfl, h, r, p2⟩ := dctD_ok a1.lk r1 p1
    refine ⟨q, rfl, .inl ⟨ks, h⟩, tG_next (rel := relV X.K) a1 x1 p2 fun α2 st2 y u H2 a2 x2 xb r2 p3 => tG_next (rel := relV X.K) a2 xb p3 fun α3 st3 z w H3 a3 x3 xb3 r3 p4 => ?_⟩
    obtain ⟨q', kvs', ks', e', h', r', p5⟩ := dctD_ok a3.lk (r1.mono (x2.trans x3).toGr) p4
    cases e'
    cases e : keyD y with
    | none => rw [e] at p5; exact p5.elim
    | some k =>
      rw [e] at p5
      exact ⟨valV ks' k, .inl ⟨ks', k, h', keyD_ok (r2.mono x3.toGr) e, rfl⟩, p5 α3 H3 _ xb3 a3.lk (getD_rel r' r3)⟩
end
end PM

set_option Elab.async false
set_option linter.all false
set_option maxRecDepth 100000
set_option maxHeartbeats 4000000
/-! PM9: dicts that are walked. -/
namespace PM
open PySem PySem.Spec PyProof.Rows L2
section
variable {X : Cx} {ca : Nat → Addr} {W : WX} {a b c o : Expr} {ea eb ec eo : E} {pos : Pos} {tg : Expr}

/-! ### a dict that stays the same for a while -/
def lockAt (p : E) : Env → Sto → Option (Nat × List (Key × D)) := fun ρ st => match p ρ st with
  | .ok (.loc n) _ => match st[n]? with
    | some (.dct kvs) => some (n, kvs)
    | _ => none
  | _ => none
def lockGo {β : Type} (n : Nat) : R β → R β
  | .ok b st => match st[n]? with
    | some (.fdc kvs) => .ok b (st.set n (.dct kvs))
    | _ => .bad
  | _ => .bad
def lockD {β : Type} (p : E) (e : Env → Sto → R β) : Env → Sto → R β := fun ρ st => match lockAt p ρ st with
  | some (n, kvs) => lockGo n (e ρ (st.set n (.fdc kvs)))
  | none => .bad
theorem lockAt_ok {p : E} {ρ : Env} {st : Sto} {n : Nat} {kvs : List (Key × D)} (h : lockAt p ρ st = some (n, kvs)) : st[n]? = some (.dct kvs) := by
  unfold lockAt at h
  split at h <;> try cases h
  split at h <;> cases h
  assumption
/-- what is told of a result, told again when a dict of the store is set free -/
def RelFree {β γ : Type} (rel : Rel β γ) (K : Frag) : Prop := ∀ (α α' : Nat → Addr) (N' : Nat) (H H' : Hp) (d : Addr) (u u' ou : HO) (b : β) (g : γ), H d = some ou → H' d = some u' → (∀ xs, u' ≠ .tup xs) → (∀ o xs, u' ≠ .frz o (.tup xs)) → (∀ o xs, u' ≠ .frz o (.lst xs)) →
  rel (upd H d u') α' N' H' b g → rel H α' N' (upd H' d u) b g
theorem gr_upd {K : Frag} {α : Nat → Addr} {N : Nat} {H : Hp} {d : Addr} {u u' : HO} (h : H d = some u') (h1 : ∀ xs, u' ≠ .tup xs) (h2 : ∀ o xs, u' ≠ .frz o (.tup xs)) (h3 : ∀ o xs, u' ≠ .frz o (.lst xs)) : Gr K α N H α N (upd H d u) :=
  ⟨Nat.le_refl _, fun _ _ => rfl, fun a vs z => sqT_upd (fun xs q => by rw [h] at q; exact h1 xs (Option.some.inj q)) (fun o xs q => by rw [h] at q; exact h2 o xs (Option.some.inj q)) z,
    fun a vs z => conL_upd (fun o xs q => by rw [h] at q; exact h3 o xs (Option.some.inj q)) z⟩
theorem relV_free {K : Frag} : RelFree (relV K) K := fun α α' N' H H' d u u' ou b g h0 h h1 h2 h3 r => RV.mono (gr_upd h h1 h2 h3) r
theorem relB_free {K : Frag} : RelFree relB K := fun α α' N' H H' d u u' ou b g h0 h h1 h2 h3 r => r
theorem relL_free {K : Frag} : RelFree (relL K) K := fun α α' N' H H' d u u' ou b g h0 h h1 h2 h3 ⟨p, vs, e, q1, q2, q3, q4⟩ => by
  have ne : p ≠ d := fun z => by rw [z, upd_same] at q1; cases q1
  rw [upd_ne ne] at q1
  exact ⟨p, vs, e, q1, by rw [upd_ne ne]; exact q2, RVs.mono (gr_upd h h1 h2 h3) q3, q4⟩
theorem relD_free {K : Frag} : RelFree (relD K) K := fun α α' N' H H' d u u' ou b g h0 h h1 h2 h3 ⟨p, vs, e, q1, q2, q3, q4⟩ => by
  have ne : p ≠ d := fun z => by rw [z, upd_same] at q1; cases q1
  rw [upd_ne ne] at q1
  exact ⟨p, vs, e, q1, by rw [upd_ne ne]; exact q2, RKs.mono (gr_upd h h1 h2 h3) q3, q4⟩
theorem lk_dct {K : Frag} {α : Nat → Addr} {st : Sto} {H : Hp} {n : Nat} {kvs : List (Key × D)} (L : Lk K ca α st H) (h : st[n]? = some (.dct kvs)) : ∃ ks, H (α n) = some (.dK ks) ∧ RKs K α st.length H kvs ks := by
  obtain ⟨ho, h1, r⟩ := L.at_ n _ h
  cases r with
  | dct r => exact ⟨_, h1, r⟩
theorem lk_fdc {K : Frag} {α : Nat → Addr} {st : Sto} {H : Hp} {n : Nat} {kvs : List (Key × D)} (L : Lk K ca α st H) (h : st[n]? = some (.fdc kvs)) : ∃ o ks, H (α n) = some (.frz o (.dK ks)) ∧ RKs K α st.length H kvs ks := by
  obtain ⟨ho, h1, r⟩ := L.at_ n _ h
  cases r with
  | fdc r => exact ⟨_, _, h1, r⟩
/-- a dict of the store is held -/
theorem lk_hold {K : Frag} {α : Nat → Addr} {st : Sto} {H : Hp} {n : Nat} {kvs : List (Key × D)} {ks : List (Key × V)} {od : Obj} (L : Lk K ca α st H) (h : st[n]? = some (.dct kvs)) (h1 : H (α n) = some (.dK ks)) (r : RKs K α st.length H kvs ks) :
    Lk K ca α (st.set n (.fdc kvs)) (upd H (α n) (.frz od (.dK ks))) ∧ Xt K α st.length H α (st.set n (.fdc kvs)).length (upd H (α n) (.frz od (.dK ks))) :=
  L.write h h1 (fun _ z => by cases z) (fun _ _ z => by cases z) (.fdc r)
/-- .. and set free -/
theorem lk_free {K : Frag} {α : Nat → Addr} {st : Sto} {H : Hp} {n : Nat} {kvs : List (Key × D)} {ks : List (Key × V)} {od : Obj} (L : Lk K ca α st H) (h : st[n]? = some (.fdc kvs)) (h1 : H (α n) = some (.frz od (.dK ks))) (r : RKs K α st.length H kvs ks) :
    Lk K ca α (st.set n (.dct kvs)) (upd H (α n) (.dK ks)) := by
  have hn := Lk.lt_of h
  have g : Gr K α st.length H α st.length (upd H (α n) (.dK ks)) := gr_upd h1 (fun _ z => by cases z) (fun _ _ z => by cases z) (fun _ _ z => by cases z)
  refine ⟨fun m o2 h2 => ?_, fun i j hi hj e => L.inj i j (by simpa using hi) (by simpa using hj) e⟩
  rw [List.length_set]
  by_cases e : m = n
  · subst e
    rw [List.getElem?_set_self hn] at h2
    cases h2
    exact ⟨_, upd_same, .dct (r.mono g)⟩
  · rw [List.getElem?_set_ne (Ne.symm e)] at h2
    obtain ⟨x, hx2, r2⟩ := L.at_ m o2 h2
    have hm := Lk.lt_of h2
    refine ⟨x, ?_, r2.mono g⟩
    rw [upd_ne (fun z => e (L.inj m n hm hn z))]
    exact hx2
theorem xt_free {K : Frag} {α α' : Nat → Addr} {N N' n : Nat} {H H' : Hp} {ks : List (Key × V)} {od : Obj} (hn : n < N) (h0 : H (α n) = some (.dK ks)) (x : Xt K α N (upd H (α n) (.frz od (.dK ks))) α' N' H') (h1 : H' (α n) = some (.frz od (.dK ks))) :
    Xt K α N H α' N' (upd H' (α n) (.dK ks)) where
  le := x.le
  ag := x.ag
  tup := fun a vs h => sqT_upd (fun xs z => by rw [h1] at z; cases z) (fun o xs z => by rw [h1] at z; cases z) (x.tup a vs (sqT_upd (fun xs z => by rw [h0] at z; cases z) (fun o xs z => by rw [h0] at z; cases z) h))
  con := fun a vs h => conL_upd (fun o xs z => by rw [h1] at z; cases z) (x.con a vs (conL_upd (fun o xs z => by rw [h0] at z; cases z) h))
  new := fun m hm hm' => by
    have := x.new m hm hm'
    by_cases e : α' m = α n
    · rw [e, upd_same] at this; cases this
    · rwa [upd_ne e] at this
  keep := fun a o h hne => by
    have ne : a ≠ α n := fun e => hne n hn e.symm
    rw [upd_ne ne]
    exact x.keep a o (by rw [upd_ne ne]; exact h) hne
  old := fun m hm ho => by
    by_cases e : α m = α n
    · rw [e, upd_same]; exact fun z => by cases z
    · rw [upd_ne e]; exact x.old m hm (by rw [upd_ne e]; exact ho)
  frz := fun a o u h => by
    have ne : a ≠ α n := fun e => by rw [e, h0] at h; cases h
    rw [upd_ne ne]
    exact x.frz a o u (by rw [upd_ne ne]; exact h)
theorem tG_lock {K : Frag} {β : Type} {rel : Rel β V} {p : E} {e : Env → Sto → R β} {σ : L2.St} {H : Hp} {Q : VK} (fr : RelFree rel K) (h : tG K ca rel W (lockD p e) σ H Q) : tLockE (tG K ca rel W0 e) σ H Q := by
  obtain ⟨α, st, ρ, at0, p⟩ := h
  simp only [lockD] at p
  split at p <;> try exact p.elim
  rename_i n kvs el
  have hs := lockAt_ok el
  obtain ⟨ks, h1, r⟩ := lk_dct at0.lk hs
  have hn := Lk.lt_of hs
  refine ⟨α n, _, h1, trivial, fun od => ?_⟩
  obtain ⟨L1, x1⟩ := lk_hold (od := od) at0.lk hs h1 r
  refine ⟨α, st.set n (.fdc kvs), ρ, ⟨L1, by rw [List.length_set]; exact at0.re.mono (by have := x1.toGr; rwa [List.length_set] at this)⟩, ?_⟩
  revert p
  cases e ρ (st.set n (.fdc kvs)) with
  | exc c fs st' => exact fun p => False.elim p
  | bad => exact fun p => False.elim p
  | ok b st' =>
    intro p α' H' g x L' rl
    simp only [lockGo] at p
    split at p <;> try exact p.elim
    rename_i kvs' e'
    have x : Xt K α st.length (upd H (α n) (.frz od (.dK ks))) α' st'.length H' := by rwa [List.length_set] at x
    have hd : H' (α n) = some (.frz od (.dK ks)) := x.frz _ _ _ upd_same
    obtain ⟨o2, ks2, h2, r2⟩ := lk_fdc L' e'
    have ea : α' n = α n := x.ag n hn
    rw [ea, hd] at h2
    cases h2
    refine ⟨hd, p α' _ g ?_ ?_ ?_⟩
    · rw [List.length_set]; exact xt_free hn h1 x hd
    · have := lk_free L' e' (by rw [ea]; exact hd) r2
      rwa [ea] at this
    · rw [List.length_set]; exact fr α α' _ _ _ _ _ _ _ _ _ h1 hd (fun _ z => by cases z) (fun _ _ z => by cases z) (fun _ _ z => by cases z) rl
theorem ql_lock (p : E) {e : EL} (h : QL X ca W0 a e) : QL X ca W a (lockD p e) := peW (pe_lock h) fun σ H Q q => tG_lock relL_free q
theorem qd_lock (p : E) {e : ED} (h : QD X ca W0 a e) : QD X ca W a (lockD p e) := peW (pe_lock h) fun σ H Q q => tG_lock relD_free q
theorem qe_lock (p : E) {e : E} (h : QE X ca W0 a e) : QE X ca W a (lockD p e) := peW (pe_lock h) fun σ H Q q => tG_lock relV_free q

/-! ### the keys of a dict that is held -/
def keysD : D → Sto → R Itb
  | .loc n, st => match st[n]? with
    | some (.fdc kvs) => .ok ⟨fun st => ∃ l, st[n]? = some (.fdc l) ∧ l.map (·.1) = kvs.map (·.1), kvs.map fun kv => kD kv.1⟩ st
    | _ => .bad
  | _, _ => .bad
def cKeysI (e : E) : EI := fun ρ st => (e ρ st).bind keysD
theorem kD_ok {K : Frag} {α : Nat → Addr} {N : Nat} {H : Hp} (k : Key) : RV K α N H (kD k) (kV k) := by cases k <;> constructor
theorem qi_keys (h : QE X ca W a ea) : QI X ca W tg a (cKeysI ea) :=
  piW (pi_keys h) fun σ H Q ⟨α, st, ρ, at0, p⟩ => tG_next (rel := relV X.K) at0 .refl p fun α1 st1 d v H1 a1 _ x1 r1 p1 => by
    cases r1 <;> try exact False.elim p1
    rename_i n hn
    simp only [keysD] at p1
    split at p1 <;> try exact p1.elim
    rename_i kvs e
    obtain ⟨o, ks, h1, r⟩ := lk_fdc a1.lk e
    refine ⟨_, o, rfl, .inl ⟨ks, h1, p1 α1 H1 _ x1 a1.lk fun α2 st2 H2 x2 L2 ck => ?_⟩⟩
    have h2 := x2.frz _ _ _ h1
    have hl : kvs.length = ks.length := r.length
    refine ⟨⟨h2, by show _ ≤ (kvs.map fun kv => kD kv.1).length; rw [List.length_map]; omega⟩, fun i d ei => ?_⟩
    have ei : (kvs.map fun kv => kD kv.1)[i]? = some d := ei
    rw [List.getElem?_map] at ei
    obtain ⟨⟨k, y⟩, e1, e2⟩ := Option.map_eq_some_iff.mp ei
    have hi : i < kvs.length := (List.getElem?_eq_some_iff.mp e1).1
    refine ⟨⟨h2, by omega⟩, fun x H3 ⟨e3, k', v', e4, e5⟩ => ?_⟩
    subst e3 e5 e2
    obtain ⟨y', e6, _⟩ := r.get e1
    rw [e6] at e4
    cases e4
    exact ⟨.refl, L2, kD_ok _⟩

/-! ### dict comprehensions -/
def pairD (ek ev : E) : Env → Sto → R (Key × D) := fun ρ st => (ek ρ st).bind fun k st => (ev ρ st).bind fun v st => match keyD k with
  | some k => .ok (k, v) st
  | none => .bad
noncomputable def cDComp (e : EI) (t : CT) (tt : ET) (ek ev : E) (vs : List Nat) : ED := fun ρ st => (e ρ st).bind fun b st =>
  if b.xs.length ≤ sizeLine then (compGo b.chk t tt (pairD ek ev) (wipeD ρ vs) b.xs st).bind fun ps st => .ok (mergeD [] ps) st else .bad
theorem qd_comp {kx vx iter : Expr} {ifs : List Expr} {scope : Scope} {own : List (Str × Nat)} {e : EI} {t : CT} {tt : ET} {ek ev : E} (hc : X.calm = true) (hN : X.N.Nodup) (hi : QI X ca W tg iter e) (ok : BlkOk X.N X.env.scope scope own)
    (hg : ∀ (s : Shared) (H : Hp) (C : Addr) (cl : List (Str × Addr)) (fp : List Addr), PG (X.blk s H scope (compEnvC scope cl C X.env) fp) tg (t.g X.K))
    (ht : ∀ (s : Shared) (H : Hp) (C : Addr) (cl : List (Str × Addr)) (fp : List Addr), PTs (X.blk s H scope (compEnvC scope cl C X.env) fp) ifs (tG X.K ca relB W0 tt))
    (hk : ∀ (s : Shared) (H : Hp) (C : Addr) (cl : List (Str × Addr)) (fp : List Addr), QE (X.blk s H scope (compEnvC scope cl C X.env) fp) ca W0 kx ek)
    (he : ∀ (s : Shared) (H : Hp) (C : Addr) (cl : List (Str × Addr)) (fp : List Addr), QE (X.blk s H scope (compEnvC scope cl C X.env) fp) ca W0 vx ev)
    (hv : ∀ i ∈ t.slots, i ∈ own.map (·.2)) (hs : ∀ x, foldedSetIterable iter X.env x = pure x := by intro _; rfl) :
    QD X ca W (.DictComp kx vx [⟨tg, iter, ifs, 0⟩] scope pos) (cDComp e t tt ek ev (own.map (·.2))) :=
  peW (pe_dc (tk := tG X.K ca (relV X.K) W0 ek) (tv := tG X.K ca (relV X.K) W0 ev) hc hN hi ok hg ht hk he hs) fun σ H Q ⟨α, st, ρ, at0, p⟩ => by
    refine tG_next (rel := relI X.K ca) at0 .refl p fun α1 st1 b J H1 a1 _ x1 io p1 => ?_
    intro L hL
    split at p1 <;> try exact p1.elim
    rename_i hz
    have nL : ∀ n, n < st1.length → α1 n ≠ L := fun n hn z => by
      obtain ⟨o, ho⟩ := a1.lk.there hn
      rw [z, hL] at ho; cases ho
    have keyW : ∀ {α' α'' : Nat → Addr} {st' st'' : Sto} {H' H'' : Hp} {accV : List (Key × V)}, (∀ n, n < st'.length → α' n ≠ L) → H' L = some (.dK accV) → Xt X.K α' st'.length H' α'' st''.length H'' → ∀ n, n < st''.length → α'' n ≠ L := fun {α' α'' st' st'' H' H'' accV} hn hD x n hl z => by
      by_cases h1 : n < st'.length
      · rw [x.ag n h1] at z; exact hn n h1 z
      · have := x.new n (Nat.le_of_not_lt h1) hl
        rw [z, hD] at this; cases this
    have W : ∃ Wv : Nat → Nat → Hp → Prop, Wv = fun i m H' => ∃ α' st' acc accV, At X.K ca α' st' H' ρ σ ∧ Xt X.K α1 st1.length H1 α' st'.length H' ∧ H' L = some (.dK accV) ∧ (∀ n, n < st'.length → α' n ≠ L) ∧ RKs X.K α' st'.length H' acc accV ∧ acc.length ≤ i ∧ m + i = b.xs.length ∧
      Post X.K ca (relD X.K) α st.length H (fun c d H' => W c d σ H') Q ((compGo b.chk t tt (pairD ek ev) (wipeD ρ (own.map (·.2))) (b.xs.drop i) st').bind fun ys st => .ok (mergeD acc ys) st) := ⟨_, rfl⟩
    obtain ⟨Wv, eW⟩ := W
    refine ⟨Wv, ⟨b.xs.length, ?_⟩, ?_⟩
    · rw [eW]
      refine ⟨α1, st1, [], [], a1.later (xt_new hL) (a1.lk.temp hL), xt_new hL, upd_same, nL, .nil, Nat.le_refl _, rfl, ?_⟩
      rw [List.drop_zero]
      exact p1
    · intro i m H' hW
      rw [eW] at hW
      obtain ⟨α', st', acc, accV, a', x', hD, nL', ra, hai, hm, q⟩ := hW
      cases hd : b.xs.drop i with
      | nil =>
        rw [hd] at q
        unfold compGo at q
        split at q <;> try exact q.elim
        rename_i ck
        have hl : b.xs.length ≤ i := by simpa using hd
        have hil : i = b.xs.length := by omega
        subst hil
        refine .inl ⟨(io α' st' H' x' a'.lk ck).1, ?_⟩
        exact q α' H' _ (x1.trans x') a'.lk ⟨L, accV, rfl, x1.fresh hL, hD, ra, nL'⟩
      | cons d r =>
        rw [hd] at q
        unfold compGo at q
        split at q <;> try exact q.elim
        rename_i ck
        have hlt : i < b.xs.length := by
          apply Classical.byContradiction
          intro hn
          rw [List.drop_eq_nil_of_le (Nat.le_of_not_lt hn)] at hd
          cases hd
        have hget : b.xs[i]? = some d := by
          have : (b.xs.drop i)[0]? = some d := by rw [hd]; rfl
          simpa using this
        have hr : b.xs.drop (i + 1) = r := by
          have : (b.xs.drop i).drop 1 = r := by rw [hd]; rfl
          rw [List.drop_drop] at this
          exact this
        obtain ⟨go, yl⟩ := (io α' st' H' x' a'.lk ck).2 i d hget
        cases eg : t.set d (wipeD ρ (own.map (·.2))) with
        | none => rw [eg] at q; exact q.elim
        | some ρ1 =>
          rw [eg] at q
          dsimp only at q
          refine .inr ⟨go, Wv (i + 1) (m - 1), fun H2 h => ⟨m - 1, by omega, h⟩, fun x H2 y => ?_⟩
          obtain ⟨xy, Ly, ry⟩ := yl x H2 y
          have hD2 := xy.keep L _ hD nL'
          have re2 := (a'.re.mono xy.toGr).wipe (own.map (·.2))
          refine CT.ok ry re2 eg hv fun σ2 re3 hw => ⟨hw.trans wipe_wipe, ?_⟩
          refine ⟨α', st', ρ1, ⟨Ly, re3⟩, ?_⟩
          rw [bind_assoc] at q
          revert q
          cases tt ρ1 st' with
          | exc c fs st2 => exact fun q => False.elim q
          | bad => exact fun q => False.elim q
          | ok k st2 =>
            intro q α2 H3 k' x2 L2 ek'
            cases ek'
            have nL2 := keyW nL' hD2 x2
            have hD3 := x2.keep L _ hD2 nL'
            have xi := (x'.trans xy).trans x2
            cases k with
            | false =>
              rw [if_neg Bool.false_ne_true, eW]
              exact ⟨α2, st2, acc, accV, (a'.later xy Ly).later x2 L2, xi, hD3, nL2, ra.mono (xy.trans x2).toGr, by omega, by omega, by rw [hr]; exact q⟩
            | true =>
              rw [if_pos rfl]
              refine ⟨α2, st2, ρ1, ⟨L2, re3.mono x2.toGr⟩, ?_⟩
              have q : Post X.K ca (relD X.K) α st.length H (fun c d H' => W c d σ H') Q (((cNx (pairD ek ev ρ1 st2)).bind fun y st => (compGo b.chk t tt (pairD ek ev) (wipeD ρ (own.map (·.2))) r st).bind fun ys st => .ok (y :: ys) st).bind fun ys st => .ok (mergeD acc ys) st) := q
              rw [bind_assoc] at q
              revert q
              unfold pairD
              cases ek ρ1 st2 with
              | exc c fs st2 => exact fun q => False.elim q
              | bad => exact fun q => False.elim q
              | ok kd st3 =>
                rw [R.bind_ok]
                intro q α3 H4 kv x3 L3 r3
                have nL3 := keyW nL2 hD3 x3
                have hD4 := x3.keep L _ hD3 nL2
                refine ⟨α3, st3, ρ1, ⟨L3, (re3.mono x2.toGr).mono x3.toGr⟩, ?_⟩
                revert q
                cases ev ρ1 st3 with
                | exc c fs st2 => exact fun q => False.elim q
                | bad => exact fun q => False.elim q
                | ok yd st4 =>
                  rw [R.bind_ok]
                  intro q α4 H5 yv x4 L4 r4
                  cases hk' : keyD kd with
                  | none => rw [hk'] at q; exact q.elim
                  | some k =>
                    rw [hk'] at q
                    have nL4 := keyW nL3 hD4 x4
                    have hD5 := x4.keep L _ hD4 nL3
                    have xi4 := (xi.trans x3).trans x4
                    have ra4 := ra.mono (((xy.trans x2).trans x3).trans x4).toGr
                    refine ⟨accV, k, keyD_ok r3 hk', hD5, by rw [← ra4.length]; omega, ?_⟩
                    obtain ⟨g5, L5⟩ := lk_scratch (ho' := .dK (putK accV k yv)) L4 nL4 hD5 (fun _ z => by cases z) (fun _ _ z => by cases z)
                    have x5 := xt_scratch (ho' := .dK (putK accV k yv)) xi4 hL nL4 hD5 (fun _ z => by cases z) (fun _ _ z => by cases z)
                    rw [eW]
                    refine ⟨α4, st4, putD acc k yd, putK accV k yv, ⟨L5, ((((a'.re.mono xy.toGr).mono x2.toGr).mono x3.toGr).mono x4.toGr).mono g5⟩, x5, upd_same, nL4, (ra4.put k r4).mono g5, ?_, by omega, ?_⟩
                    · have : (putD acc k yd).length ≤ acc.length + 1 := by
                        unfold putD
                        split
                        · rw [List.length_map]; omega
                        · rw [List.length_append]; exact Nat.le_refl _
                      omega
                    · have q : Post X.K ca (relD X.K) α st.length H (fun c d H' => W c d σ H') Q (((compGo b.chk t tt (pairD ek ev) (wipeD ρ (own.map (·.2))) r st4).bind fun ys st => .ok ((k, yd) :: ys) st).bind fun ys st => .ok (mergeD acc ys) st) := q
                      rw [bind_assoc] at q
                      rw [hr]
                      exact q
end
end PM

set_option Elab.async false
set_option linter.all false
set_option maxRecDepth 100000
set_option maxHeartbeats 4000000
/-! PM10: sorted(set(xs)), xs a list of ints. -/
namespace PM
open PySem PySem.Spec PyProof.Rows L2

abbrev setObj (w : World) : Obj := { cls := .type "set", dict := none, data := .set #[] 0 (.fresh 0 0 (!w.params.followText "set-order")) }
section
variable {P : Program} {w : World} {A : Around} {E : Value → Shared → Prop} {s : Shared}
set_option maxHeartbeats 6400000 in
/-- set(l) of a list of ints: the set, as cr_sortedSet asks it -/
theorem set_of_list {l : Addr} {us : Array Value} (ns : List Int) {Q : Value → Shared → Prop} (hh : A.handled = none) (hl : s.heap.IsList l us) (hi : IntsAre us.toList ns) (hb : ns.length + 1 < scanBound)
    (h : ∀ (h2 : Heap) (tk c : Nat), SetR w h2 s.heap.objs.size (fun j => decide (j ∈ ns)) c → c ≤ ns.length → (∀ b o, s.heap.get? b = some o → h2.get? b = some o) → Q (.ref s.heap.objs.size) { s with heap := h2, toks := tk }) :
    wpAny (model P w) A (call (.type "set") [.ref l]) Q E s := by
  have hsz : us.size = ns.length := by have := hi.length; rwa [Array.length_toList] at this
  obtain ⟨_, _, hmro⟩ := F.called_set.mro
  have f1 := F.called_set.made
  have f2 := F.called_set.sub
  have f3 := F.called_set.notType
  have f4 := F.called_set.canCreate
  have f5 := F.typeCall_set_1 (.ref l)
  refine wpAny_call (codeAny_of_tree (wpAny_pure ⟨Code.quiet_builtin _ (by decide +kernel), codeAny_builtin F.entry_type_call ?_⟩))
  rw [Around.under_plain (weight_type_call_type "set" [.ref l] []) rfl]
  repeat (any_goals (first | assumption | wp_step))
  generalize hS0 : s.heap.push (setObj w) = g0
  have hnew : g0.get? s.heap.objs.size = some (setObj w) := by rw [← hS0]; exact Heap.get?_push_size _ rfl
  have hold : ∀ b o, s.heap.get? b = some o → g0.get? b = some o := fun b o e => by rw [← hS0]; exact Heap.get?_push_of_some _ e
  have hgs : g0.objs.size = s.heap.objs.size + 1 := by rw [← hS0]; exact Heap.size_push ..
  refine codeAny_mono (code_set_led1 (.ref l) (E := E) (Q₁ := fun v s1 => v = .ref s.heap.objs.size ∧ s1 = { s with heap := g0 }) ⟨rfl, by rw [← hS0]⟩) fun r s1 hr => ?_
  match r, hr with
  | .error e, hr => exact hr
  | .ok .next, hr => exact hr.elim
  | .ok .brk, hr => exact hr.elim
  | .ok .cont, hr => exact hr.elim
  | .ok (.ret v), hr =>
    obtain ⟨rfl, rfl⟩ := hr
    have ty : Shared.TypeIs { s with heap := g0 } (.ref s.heap.objs.size) "set" := ⟨_, hnew, rfl⟩
    have f6 := F.called_set.init.lookup
    have f7 := F.called_set.init.bind (.ref s.heap.objs.size)
    repeat (any_goals (first | assumption | wp_step))
    refine codeAny_mono (codeAny_call_builtin (R := wants (fun r s2 => r = .none ∧ ∃ h2 tk c, s2 = { s with heap := h2, toks := tk } ∧ SetR w h2 s.heap.objs.size (fun j => decide (j ∈ ns)) c ∧ c ≤ ns.length ∧ (∀ b o, s.heap.get? b = some o → h2.get? b = some o)) E)
      F.called_set.init.plain F.entry_set_init (check_set_init_1 ty ?_)) fun r2 s2 hr2 => ?_
    · obtain ⟨⟨ocls, odict, odata, oslots⟩, hol, hcl, nl, hdl⟩ := hl
      simp only at hcl hdl
      subst hcl hdl
      have hol2 := hold _ _ hol
      have hlt : l < s.heap.objs.size := Heap.lt_size hol
      have e1 := F.sub_list_set
      have e2 := F.sub_list_frozenset
      have e3 : (Value.type "list" == Value.type "dict") = false := by decide
      have hl2 : g0.IsList l us := ⟨_, hol2, rfl, nl, rfl⟩
      unfold Builtin.«set.__init__» noKeywords Builtin.Frozenset.updateFrom
      generalize hPI : pyIter = PI
      wp_walk
      subst hPI
      refine wpAny_pyIter_list hl2 (wpAny_bind (wpAny_runValue ?_))
      have h3 : A.in1.in1.in1.handled = none := by simp [hh]
      have ne1 : l ≠ g0.objs.size := by rw [hgs]; exact Nat.ne_of_lt (Nat.lt_succ_of_lt hlt)
      have nin : s.heap.objs.size ∉ [g0.objs.size, l] := by
        rw [hgs]
        intro z
        rcases List.mem_cons.mp z with z | z
        · exact absurd z (Nat.ne_of_lt (Nat.lt_succ_self _))
        · exact absurd (List.mem_singleton.mp z) (Nat.ne_of_gt hlt)
      refine set_update_ints ((Walks.list h3 _ l ne1 us).toS) s.heap.objs.size nin ns hsz hb (fun i v hv => ?_) (us.size - 0) 0 _ (by omega) (Nat.zero_le _) ⟨⟨_, Heap.get?_push_size _ rfl, rfl, rfl⟩, hl2.push _⟩ ?_ ?_
      · have hin : i < ns.length := by rw [← hsz]; exact (Array.getElem?_eq_some_iff.mp hv).1
        obtain ⟨t, e⟩ := PyProof.Rows.IntsAre.int_at hi i v (by rw [Array.getElem?_toList]; exact hv)
        refine ⟨ns[i], t, List.getElem?_eq_getElem hin, ?_⟩
        rw [e, List.getD_eq_getElem?_getD, List.getElem?_eq_getElem hin] <;> rfl
      · exact ⟨0, Nat.le_refl 0, setR_new_at (Heap.get?_push_of_some _ hnew)⟩
      · intro s2 c hm hc R
        obtain ⟨h2, gg, dd, tt, oo⟩ := s2
        have eg : gg = s.gens := hm.gens
        have ed : dd = s.drawn := hm.drawn
        have eo : oo = s.os := hm.os
        subst eg ed eo
        show wpAny _ _ _ _ _ _
        refine wpAny_pure ?_
        show wpAny _ _ (ret Value.none) _ _ _
        rw [hsz] at hc
        refine wpAny_pure ⟨rfl, h2, tt, c, rfl, R, hc, fun b o e => ?_⟩
        have hb0 : b < s.heap.objs.size := Heap.lt_size e
        refine hm.heap b o (fun z => ?_) (Heap.get?_push_of_some _ (hold b o e))
        rcases List.mem_cons.mp z with z | z
        · exact absurd z (Nat.ne_of_lt hb0)
        · have z := List.mem_singleton.mp z
          rw [hgs] at z
          exact absurd z (Nat.ne_of_lt (Nat.lt_succ_of_lt hb0))
    · match r2, hr2 with
      | .error e, hr2 => exact hr2
      | .ok .next, hr2 => exact hr2.elim
      | .ok .brk, hr2 => exact hr2.elim
      | .ok .cont, hr2 => exact hr2.elim
      | .ok (.ret r), hr2 =>
        obtain ⟨rfl, h2, tk, c, rfl, R, hc, hk⟩ := hr2
        repeat (any_goals (first | assumption | wp_step))
        exact h _ _ _ R hc hk
end
end PM

set_option Elab.async false
set_option linter.all false
set_option maxRecDepth 100000
set_option maxHeartbeats 4000000
/-! PM11: sorted(set(xs)). -/
namespace PM
open PySem PySem.Spec PyProof.Rows L2
section
variable {X : Cx} {ca : Nat → Addr} {W : WX} {a : Expr} {p p2 pos q : Pos}
def nubI : List Int → List Int
  | [] => []
  | n :: ns => if n ∈ nubI ns then nubI ns else n :: nubI ns
theorem mem_nubI {k : Int} : ∀ {ns : List Int}, k ∈ nubI ns ↔ k ∈ ns
  | [] => Iff.rfl
  | n :: ns => by
    have ih := mem_nubI (k := k) (ns := ns)
    unfold nubI
    split
    · rename_i h
      rw [List.mem_cons, ih]
      exact ⟨fun z => .inr z, fun z => z.elim (fun e => by rw [e]; exact mem_nubI.mp h) id⟩
    · rw [List.mem_cons, List.mem_cons, ih]
theorem nodup_nubI : ∀ ns : List Int, (nubI ns).Nodup
  | [] => List.nodup_nil
  | n :: ns => by
    unfold nubI
    split
    · exact nodup_nubI ns
    · rename_i h
      exact List.nodup_cons.mpr ⟨h, nodup_nubI ns⟩
/-- the members of a list, each once, in order -/
def setI (ns : List Int) : List Int := sortI (nubI ns)
theorem setI_uniq {ns ms : List Int} (hs : ms.Pairwise (· < ·)) (hm : ∀ k, k ∈ ms ↔ k ∈ ns) : ms = setI ns := by
  refine sortI_uniq ?_ (hs.imp fun h => Int.le_of_lt h)
  refine (List.perm_ext_iff_of_nodup (hs.imp fun h => Int.ne_of_lt h) (nodup_nubI ns)).mpr fun k => ?_
  rw [hm, mem_nubI]
def sortSetS : List D → Sto → R (List D) := fun xs st => match intsD xs with
  | some ns => if ns.length < 64 then .ok ((setI ns).map .int) st else .bad
  | none => .bad
theorem cr_setI (hc : X.calm = true) : CallR X (.type "set") (fun xs H Q => ∃ (l : Addr) (ns : List Int), xs = [V.ref l] ∧ SqL X.K H l (ns.map V.int) ∧ ns.length + 1 < scanBound ∧ ∀ p n, H p = none → n ≤ ns.length → Q (.ref p) (upd H p (SetO X.w p (fun j => decide (j ∈ ns)) n))) := by
  intro pins s σ H xs us Q I r h
  obtain ⟨l, ns, rfl, hq, hb, q⟩ := h
  rw [Vals.ref1 r]
  obtain ⟨its, rv, pl, hz⟩ := I.list hq
  refine set_of_list ns (I.ok.hd hc) pl.isList (by simpa using ints_of_vals rv) hb fun h2 tk c R hcn hk => ?_
  have hn : H s.heap.objs.size = none := I.hok.fresh (Nat.le_refl _)
  exact ⟨.ref _, _, I.laid (t' := tk) hk (Nat.le_refl _) (setO_new R), rfl, q _ _ hn hcn⟩
theorem ql_sortedSet {e : EL} (hc : X.calm = true) (ha : QM X ca W a e) (hg : Gl X "sorted") (hm : X.mg "sorted" = none) (hg2 : Gl X "set") (hm2 : X.mg "set" = none) (hs : starEach [a] X.env = (false, eval a X.env) :: starEach [] X.env := by rfl)
    (hs2 : starEach [.Call (.Name "set" p2) [a] [] q] X.env = (false, eval (.Call (.Name "set" p2) [a] [] q) X.env) :: starEach [] X.env := by rfl) : QL X ca W (.Call (.Name "sorted" p) [.Call (.Name "set" p2) [a] [] q] [] pos) (cS1 sortSetS e) :=
  peW (pe_callB (cr_sortedSet hc) hg hm (by decide +kernel) (pa1 (pe_callTy (cr_setI hc) hg2 hm2 (by decide +kernel) (pa1 ha hs) (by decide) (by decide) hs (by rfl)) hs2) (by decide) (by decide) hs2 (by rfl)) fun σ H Q ⟨α, st, ρ, at0, p⟩ =>
    tG_next (rel := relM X.K) at0 .refl p fun α1 st1 xs v H1 a1 _ x1 ⟨l, vs, e, h, r1⟩ p1 => by
      subst e
      unfold sortSetS at p1
      cases e : intsD xs with
      | none => rw [e] at p1; exact p1.elim
      | some ns =>
        rw [e] at p1
        dsimp only at p1
        split at p1 <;> try exact p1.elim
        rename_i h64
        have ev := intsD_ok r1 e
        subst ev
        refine ⟨l, ns, rfl, .inl (.inl h), by unfold scanBound; omega, fun p n hp hn => ⟨p, _, n, rfl, upd_same, by omega, fun ms l2 hs hm hl hl2 => ?_⟩⟩
        rw [setI_uniq (ns := ns) hs fun k => (hm k).trans decide_eq_true_iff]
        exact fin_new p1 (x1.trans (xt_new hp)) (a1.lk.temp hp) (ints_rvs _) hl2
end
end PM

set_option Elab.async false
set_option linter.all false
set_option maxRecDepth 100000
set_option maxHeartbeats 4000000
/-! PM12: facts of defs, the end. -/
namespace PM
open PySem PySem.Spec PyProof.Rows L2
section
variable {X : Cx} {ca : Nat → Addr} {W : WX}
theorem Ok.blk {s : Shared} {H : Hp} {scope : Scope} {cenv : PySem.Env} {fp : List Addr} (hc : X.calm = true) : Ok (X.blk s H scope cenv fp) W0 := ⟨takes0, PassesOwn.never, hc⟩
theorem Ok.zero (o : Ok X W) : Ok X W0 := ⟨takes0, o.hp, o.calm⟩
theorem qts_nil : PTs X [] (tG X.K ca relB W0 tYesD) := ⟨fun pins s σ H Q I ⟨α, st, ρ, a, p⟩ => pts_nil.run pins s σ H Q I (p α H true .refl a.lk rfl)⟩
theorem qts_one {c : Expr} {t : ET} (h : QT X ca W0 c t) : PTs X [c] (tG X.K ca relB W0 t) := pts_one h
theorem hu1_of {A : Around} {k : Nat} (hr : Room k A) : A.units + 1 < cLine := by have := hr.un; omega
theorem hu64_of {A : Around} {k : Nat} (hr : Room k A) : A.units + 64 < cLine := by have := hr.un; omega
theorem hu65_of {A : Around} {k : Nat} (hr : Room k A) : A.units + 65 < cLine := by have := hr.un; omega
end
def TopF (K : Frag) (mg : Str → Option Value) (x : Str) (st : Stmt) : Prop := ∃ f fd, mg x = some (.ref f) ∧ PySem.W.keepIn K (.ref f) = true ∧ Fun K x x st f fd
def MetF (K : Frag) (C : Addr) (x qual : Str) (st : Stmt) : Prop := ∃ f fd, Cls K C ∧ Meth K C x f ∧ Fun K x qual st f fd
def MkF (K : Frag) (mg : Str → Option Value) (C : Addr) (c qual : Str) (st : Stmt) : Prop := ∃ f fd, mg c = some (.ref C) ∧ Mk K C f ∧ Fun K "__init__" qual st f fd
structure ExF (K : Frag) (mg : Str → Option Value) (C : Addr) (x : Str) : Prop where
  g : mg x = some (.ref C)
  q : PySem.W.excIn K C [.type "ValueError", .type "Exception", .type "BaseException", .type "object"] "ValueError.__new__" = true
  k : PySem.W.keepIn K (.ref C) = true
  b : PySem.W.subIn K (.ref C) (.type "BaseException") = some true
  t : PySem.W.typeIn K (.ref C) = some (.type "type")
theorem exC_of {X : Cx} {ca : Nat → Addr} {c : Nat} {x : Str} (e : ExF X.K X.mg (ca c) x) : ExC X ca c x := ⟨e.g, e.q, e.k, e.b, e.t⟩
theorem exm_of {K : Frag} {S U : Addr} {b : Bool} (h1 : PySem.W.subIn K (.ref U) (.type "BaseException") = some true) (h2 : PySem.W.isClsIn K U = true) (h3 : PySem.W.typeIn K (.ref U) = some (.type "type")) (h4 : PySem.W.subIn K (.ref S) (.ref U) = some b) : PySem.W.exmOne K (.ref S) (.ref U) = some b := by
  have a1 : (PySem.W.subIn K (.ref U) (.type "BaseException") == some true) = true := by rw [h1]; rfl
  have h2' : (PySem.W.clsIn K U).isSome = true := h2
  have a2 : ((PySem.W.clsIn K U).isSome && PySem.W.typeIn K (.ref U) == some (.type "type")) = true := by rw [h2', h3]; rfl
  unfold PySem.W.exmOne
  rw [if_pos a1]
  show (if ((PySem.W.clsIn K U).isSome && PySem.W.typeIn K (.ref U) == some (.type "type")) = true then PySem.W.subIn K (.ref S) (.ref U) else none) = some b
  rw [if_pos a2, h4]
section
variable {P : Program} {w : World} {K : Frag} {mg : Str → Option Value} {base : Heap} {ca : Nat → Addr} {k : Nat} {x qual : Str} {st : Stmt} {ps : List Str} {m : M}
theorem Fn.of (T : TopF K mg x st) (hB : ∀ (kV doc pm : Value) (an : Option Addr) (cdv ct : Value) (us : List Value), us.length = ps.length → bindArgs (PySem.W.fnOf x x (defArgs st) (defBody st) (defScope st) .none kV doc pm an cdv ct) ⟨us, []⟩ = pure (ps.zip us))
    (h : ∀ f fd, Fun K x x st f fd → FnOk P w K mg base (L2.CX P w) k f fd ps (spOf K ca ps.length m)) : Fn P w K mg base ca k x ps m := by
  obtain ⟨f, fd, h1, h2, F⟩ := T
  exact ⟨f, fd, h1, h2, F.binds hB, h f fd F⟩
theorem Md.of {c : Nat} (T : MetF K (ca c) x qual st) (hB : ∀ (kV doc pm : Value) (an : Option Addr) (cdv ct : Value) (us : List Value), us.length = ps.length → bindArgs (PySem.W.fnOf x qual (defArgs st) (defBody st) (defScope st) .none kV doc pm an cdv ct) ⟨us, []⟩ = pure (ps.zip us))
    (h : ∀ f fd, Fun K x qual st f fd → FnOk P w K mg base (L2.CX P w) k f fd ps (spOf K ca ps.length m)) : Md P w K mg base ca k c x ps m := by
  obtain ⟨f, fd, h1, h2, F⟩ := T
  exact ⟨f, fd, h1, h2, F.binds hB, h f fd F⟩
theorem Cm.of {c : Nat} (T : MkF K mg (ca c) x qual st) (hB : ∀ (kV doc pm : Value) (an : Option Addr) (cdv ct : Value) (us : List Value), us.length = ps.length → bindArgs (PySem.W.fnOf "__init__" qual (defArgs st) (defBody st) (defScope st) .none kV doc pm an cdv ct) ⟨us, []⟩ = pure (ps.zip us))
    (h : ∀ f fd, Fun K "__init__" qual st f fd → FnOk P w K mg base (L2.CX P w) k f fd ps (spOf K ca ps.length m)) : Cm P w K mg base ca k c x ps m := by
  obtain ⟨f, fd, h1, h2, F⟩ := T
  exact ⟨f, fd, h1, h2, F.binds hB, h f fd F⟩
theorem fn_okn {f : Addr} {fd : FuncData} {N : List Str} {n p : Nat} {s : S} (F : Fun K x qual st f fd) (sc : FnScope N ps (defScope st)) (hn : N.length = n) (hp : ps.length = p)
    (hb : ∀ (cdv : Value) (A : Around) (outer : List PySem.Env) (s0 : Shared) (H : Hp) (E : XK), Room k (A.deeper (envOfC qual (defScope st) s0.heap.objs.size f cdv)) →
      Ok (cxOf (L2.CX P w) P w K mg base N qual (defScope st) f cdv A outer s0 H E) (fun c d _ H => E c d H) →
      QFs (cxOf (L2.CX P w) P w K mg base N qual (defScope st) f cdv A outer s0 H E) ca (fun c d _ H => E c d H) (defBody st) s) :
    FnOk P w K mg base (L2.CX P w) (k + 1) f fd ps (spOf K ca p (mDef n s)) := by
  subst hn hp
  exact fn_ok F sc hb
theorem fn_bad {f : Addr} {fd : FuncData} : FnOk P w K mg base (L2.CX P w) k f fd ps (spOf K ca ps.length fun _ _ => .bad) := ⟨fun vs H Q E h => h.1, fun A outer s H args us vs Q E hr he hb hv h => by
  obtain ⟨_, _, _, _, _, _, p⟩ := h
  exact p.elim⟩
/-- the law's own promise -/
def spLaw (K : Frag) : Sp := fun vs H Q _ => ∃ (a : Addr) (ns : List Int), vs = [.ref a] ∧ ConL K H a (ns.map V.int) ∧ ns.length ≤ 63 ∧ ∀ H', Q (.bl true) H'
theorem law_of {f : Addr} {fd : FuncData} (F : FnOk P w K mg base (L2.CX P w) k f fd ["script"] (spOf K ca 1 m)) (hm : ∀ ns : List Int, ns.length ≤ 63 → ∃ st, m [.con (ns.map D.int)] [] = .ok (.bl true) st) : FnOk P w K mg base (L2.CX P w) k f fd ["script"] (spLaw K) :=
  F.imp fun vs H Q E ⟨a, ns, e, hc, hl, q⟩ => by
    subst e
    obtain ⟨st, e⟩ := hm ns hl
    refine ⟨rfl, fun _ => 0, [], [.con (ns.map D.int)], ⟨fun n o h => by simp at h, fun i j hi => by simp at hi⟩, .cons (.con hc (ints_rvs ns)) .nil, ?_⟩
    rw [e]
    intro α' H' g x L r
    cases r
    exact q H'
end
theorem con_of {K : Frag} {H : Hp} {a : Addr} {xs : List V} (hO : L2.Only H) (h : SqL K H a xs) : ConL K H a xs := by
  rcases h with (h | ⟨o, h⟩) | h
  · rcases hO a with e | ⟨o, ys, e⟩
    · rw [h] at e; cases e
    · rw [h] at e; cases e
  · exact .inl ⟨o, h⟩
  · exact .inr h
theorem walk {l : PySem.W.OpenLaw} {q : Program} {loose : List Str} {XP : (Str → Option Value) → Heap → Prop} {YP : World → Heap → Prop} {d : DefRec} {K : Params → PySem.W.Frag} (k : Nat) (hr : Room k callerA) (hn : l.most = some 63) (hdf : d.params.defaults = [])
    (hY : ∀ (w : World) (h : Heap), YP w h → (K w.params).In h)
    (F : ∀ (w : World) (mg : Str → Option Value) (fa : Addr) (h : Heap), (K w.params).In h → h.Ns mainGlobals mg → mg d.name = some (.ref fa) →
      ∃ fd : FuncData, (∀ (s : Shared) (u : Value), BindsTo s fd ⟨[u], []⟩ [("script", u)]) ∧ ∀ base : Heap, (K w.params).In base → base.Ns mainGlobals mg → FnOk l.prog w (K w.params) mg base (L2.CX l.prog w) k fa fd ["script"] (spLaw (K w.params))) :
    PySem.W.WalkO q loose XP YP l.row.toRowW d [] (fun f vs => PySem.call f vs) :=
  L2.walk_of (n := 63) (k := k) (x := "script") (CX := fun w => L2.CX l.prog w) (sp := fun w => spLaw (K w.params)) hn (by decide) hdf hr hY F (fun _ _ a ns hl hO hS => ⟨a, ns, rfl, con_of hO hS, hl, fun _ => rfl⟩) fun w H s e s' ⟨_, _, _, _, _, _, _, _, _, _, _, _, z⟩ => z
end PM

set_option Elab.async false
set_option linter.all false
set_option maxRecDepth 100000
set_option maxHeartbeats 4000000
/-! PM13: running a mirror (printed by genev.py). -/
namespace PM
open PySem PySem.Spec PyProof.Rows L2
open Classical in
@[simp] theorem cVar_ap (i : Nat)  (ρ : Env) (st : Sto) : cVar i ρ st = (match ρ[i]? with
  | some (some d) => .ok d st
  | _ => .bad) := rfl
@[simp] theorem cC_ap (d : D)  (ρ : Env) (st : Sto) : cC d ρ st = .ok d st := rfl
@[simp] theorem cOp2_ap (f : D → D → Sto → R D) (a b : E)  (ρ : Env) (st : Sto) : cOp2 f a b ρ st = (a ρ st).bind fun x st => (b ρ st).bind fun y st => f x y st := rfl
@[simp] theorem cTst_ap (e : E)  (ρ : Env) (st : Sto) : cTst e ρ st = asB (e ρ st) := rfl
@[simp] theorem cChain_ap (f g : D → D → Sto → R D) (a b c : E)  (ρ : Env) (st : Sto) : cChain f g a b c ρ st = ((a ρ st).bind fun x st => (b ρ st).bind fun y st => (asB (f x y st)).bind fun k st =>
  match k with
  | true => (c ρ st).bind fun z st => g y z st
  | false => .ok (.bl false) st) := rfl
@[simp] theorem cOp1_ap (f : D → Sto → R D) (a : E)  (ρ : Env) (st : Sto) : cOp1 f a ρ st = (a ρ st).bind fun x st => f x st := rfl
@[simp] theorem cAnd_ap (a b : E)  (ρ : Env) (st : Sto) : cAnd a b ρ st = ((a ρ st).bind fun x st => match x with
  | .bl true => b ρ st
  | .bl false => .ok (.bl false) st
  | _ => .bad) := rfl
@[simp] theorem cOr_ap (a b : E)  (ρ : Env) (st : Sto) : cOr a b ρ st = ((a ρ st).bind fun x st => match x with
  | .bl false => b ρ st
  | .bl true => .ok (.bl true) st
  | _ => .bad) := rfl
@[simp] theorem cNot_ap (a : E)  (ρ : Env) (st : Sto) : cNot a ρ st = ((a ρ st).bind fun x st => match x with
  | .bl k => .ok (.bl (!k)) st
  | _ => .bad) := rfl
@[simp] theorem tAndD_ap (a b : ET)  (ρ : Env) (st : Sto) : tAndD a b ρ st = ((a ρ st).bind fun k st => match k with
  | true => b ρ st
  | false => .ok false st) := rfl
@[simp] theorem tOrD_ap (a b : ET)  (ρ : Env) (st : Sto) : tOrD a b ρ st = ((a ρ st).bind fun k st => match k with
  | true => .ok true st
  | false => b ρ st) := rfl
@[simp] theorem tNotD_ap (a : ET)  (ρ : Env) (st : Sto) : tNotD a ρ st = (a ρ st).bind fun k st => .ok (!k) st := rfl
@[simp] theorem cTru_ap (e : E)  (ρ : Env) (st : Sto) : cTru e ρ st = (e ρ st).bind fun x st => truD x st := rfl
@[simp] theorem cIf_ap (t : ET) (a b : E)  (ρ : Env) (st : Sto) : cIf t a b ρ st = ((t ρ st).bind fun k st => match k with
  | true => a ρ st
  | false => b ρ st) := rfl
@[simp] theorem cTup_ap (es : List E)  (ρ : Env) (st : Sto) : cTup es ρ st = (cArgs es ρ st).bind fun xs st => .ok (.tup xs) st := rfl
@[simp] theorem cNew_ap (e : EL)  (ρ : Env) (st : Sto) : cNew e ρ st = (e ρ st).bind fun xs st => .ok (.loc st.length) (st ++ [.lst xs]) := rfl
@[simp] theorem cSeq_ap (e : E)  (ρ : Env) (st : Sto) : cSeq e ρ st = (e ρ st).bind seqD := rfl
@[simp] theorem cB1_ap {β : Type} (f : D → Sto → R β) (e : E)  (ρ : Env) (st : Sto) : cB1 f e ρ st = (e ρ st).bind f := rfl
@[simp] theorem cS1_ap {β : Type} (f : List D → Sto → R β) (e : EL)  (ρ : Env) (st : Sto) : cS1 f e ρ st = (e ρ st).bind f := rfl
@[simp] theorem cIxL_ap (e : EL) (b : E)  (ρ : Env) (st : Sto) : cIxL e b ρ st = (e ρ st).bind fun xs st => (b ρ st).bind fun y st => atD xs y st := rfl
@[simp] theorem cNoPart_ap  (ρ : Env) (st : Sto) : cNoPart  ρ st = .ok none st := rfl
@[simp] theorem cPart_ap (e : E)  (ρ : Env) (st : Sto) : cPart e ρ st = ((e ρ st).bind fun x st => match x with
  | .int i => .ok (some i) st
  | _ => .bad) := rfl
@[simp] theorem cSlice_ap (e : E) (lo hi : EO)  (ρ : Env) (st : Sto) : cSlice e lo hi ρ st = (e ρ st).bind fun x st => (lo ρ st).bind fun l st => (hi ρ st).bind fun h st => sliceD x l h st := rfl
@[simp] theorem cLs_ap (e : E)  (ρ : Env) (st : Sto) : cLs e ρ st = (e ρ st).bind lstD := rfl
@[simp] theorem cCatL_ap (a b : EL)  (ρ : Env) (st : Sto) : cCatL a b ρ st = (a ρ st).bind fun xs st => (b ρ st).bind fun ys st => catL xs ys st := rfl
@[simp] theorem cCatE_ap (a : E) (b : EL)  (ρ : Env) (st : Sto) : cCatE a b ρ st = (a ρ st).bind fun x st => (b ρ st).bind fun ys st => (lstD x st).bind fun xs st => catL xs ys st := rfl
@[simp] theorem cRepL_ap (a : EL) (b : E)  (ρ : Env) (st : Sto) : cRepL a b ρ st = ((a ρ st).bind fun xs st => (b ρ st).bind fun y st => match y with
  | .int k => if -(2 ^ 63) ≤ k ∧ k < 2 ^ 63 ∧ xs.length * k.toNat ≤ sizeLine then .ok (List.replicate k.toNat xs).flatten st else .bad
  | _ => .bad) := rfl
@[simp] theorem sNext_ap  (ρ : Env) (st : Sto) : sNext  ρ st = .nx ρ st := rfl
@[simp] theorem sSeq_ap (a b : S)  (ρ : Env) (st : Sto) : sSeq a b ρ st = (match a ρ st with
  | .nx ρ' st' => b ρ' st'
  | .rt d st' => .rt d st'
  | .bk ρ' st' => .bk ρ' st'
  | .ct ρ' st' => .ct ρ' st'
  | .exc c fs ρ' st' => .exc c fs ρ' st'
  | .bad => .bad) := rfl
@[simp] theorem sBreak_ap  (ρ : Env) (st : Sto) : sBreak  ρ st = .bk ρ st := rfl
@[simp] theorem sCont_ap  (ρ : Env) (st : Sto) : sCont  ρ st = .ct ρ st := rfl
@[simp] theorem sExp_ap (e : E)  (ρ : Env) (st : Sto) : sExp e ρ st = fE (e ρ st) ρ fun _ st => .nx ρ st := rfl
@[simp] theorem sRet_ap (e : E)  (ρ : Env) (st : Sto) : sRet e ρ st = fE (e ρ st) ρ fun d st => .rt d st := rfl
@[simp] theorem sRetN_ap  (ρ : Env) (st : Sto) : sRetN  ρ st = .rt .non st := rfl
@[simp] theorem sIf_ap (t : ET) (a b : S)  (ρ : Env) (st : Sto) : sIf t a b ρ st = (fE (t ρ st) ρ fun k st => match k with
  | true => a ρ st
  | false => b ρ st) := rfl
@[simp] theorem sAsg_ap (e : E) (g : G)  (ρ : Env) (st : Sto) : sAsg e g ρ st = (fE (e ρ st) ρ fun d st => match g d ρ with
  | some ρ' => .nx ρ' st
  | none => .bad) := rfl
@[simp] theorem sSet_ap (i : Nat) (e : E)  (ρ : Env) (st : Sto) : sSet i e ρ st = fE (e ρ st) ρ fun d st => .nx (ρ.set i (some d)) st := rfl
@[simp] theorem sPar_ap (i j : Nat) (es : List E)  (ρ : Env) (st : Sto) : sPar i j es ρ st = (fE (cArgs es ρ st) ρ fun ds st => match ds with
  | [d, e] => .nx ((ρ.set i (some d)).set j (some e)) st
  | _ => .bad) := rfl
@[simp] theorem sAug_ap (i : Nat) (f : D → D → Sto → R D) (e : E)  (ρ : Env) (st : Sto) : sAug i f e ρ st = (match ρ[i]? with
  | some (some x) => fE (e ρ st) ρ fun y st => fE (f x y st) ρ fun z st => .nx (ρ.set i (some z)) st
  | _ => .bad) := rfl
@[simp] theorem sFldD_ap (cs : List Nat) (f : Str) (o e : E)  (ρ : Env) (st : Sto) : sFldD cs f o e ρ st = (fE (e ρ st) ρ fun d st => fE (o ρ st) ρ fun x st => match x with
  | .loc n => match st[n]? with
    | some (.ins c fs) => if c ∈ cs ∧ fs.length < 1000 then .nx ρ (st.set n (.ins c (putFD f d fs))) else .bad
    | _ => .bad
  | _ => .bad) := rfl
@[simp] theorem sFldAugD_ap (cs : List Nat) (f : Str) (g : D → D → Sto → R D) (o e : E)  (ρ : Env) (st : Sto) : sFldAugD cs f g o e ρ st = (fE (o ρ st) ρ fun x st => match x with
  | .loc n => match st[n]? with
    | some (.ins c fs) => if c ∈ cs then match fs.lookup f with
      | some v => fE (e ρ st) ρ fun y st => fE (g v y st) ρ fun z st => match st[n]? with
        | some (.ins c' fs') => if c' = c ∧ fs'.length < 1000 then .nx ρ (st.set n (.ins c (putFD f z fs'))) else .bad
        | _ => .bad
      | none => .bad else .bad
    | _ => .bad
  | _ => .bad) := rfl
@[simp] theorem sSub_ap (o i e : E)  (ρ : Env) (st : Sto) : sSub o i e ρ st = (fE (e ρ st) ρ fun d st => fE (o ρ st) ρ fun x st => fE (i ρ st) ρ fun y st => match setD x y d st with
  | some st' => .nx ρ st'
  | none => .bad) := rfl
@[simp] theorem sDel_ap (o i : E)  (ρ : Env) (st : Sto) : sDel o i ρ st = (fE (o ρ st) ρ fun x st => fE (i ρ st) ρ fun y st => match delD x y st with
  | some st' => .nx ρ st'
  | none => .bad) := rfl
@[simp] theorem cItr_ap (e : E)  (ρ : Env) (st : Sto) : cItr e ρ st = (e ρ st).bind itrD := rfl
@[simp] theorem cItl_ap (e : EL)  (ρ : Env) (st : Sto) : cItl e ρ st = (e ρ st).bind fun xs st => .ok ⟨fun _ => True, xs⟩ st := rfl
@[simp] theorem cRng1_ap (e : E)  (ρ : Env) (st : Sto) : cRng1 e ρ st = (e ρ st).bind rng1D := rfl
@[simp] theorem cRng2_ap (e f : E)  (ρ : Env) (st : Sto) : cRng2 e f ρ st = (e ρ st).bind fun x st => (f ρ st).bind fun y st => rng2D x y st := rfl
@[simp] theorem sFor_ap (e : EI) (g : G) (body : S)  (ρ : Env) (st : Sto) : sFor e g body ρ st = fE (e ρ st) ρ fun b st => forGo b.chk g body b.xs ρ st := rfl
@[simp] theorem cComp_ap (e : EI) (t : CT) (tt : ET) (te : E) (vs : List Nat)  (ρ : Env) (st : Sto) : cComp e t tt te vs ρ st = ((e ρ st).bind fun b st =>
  if b.xs.length ≤ sizeLine then compGo b.chk t tt te (wipeD ρ vs) b.xs st else .bad) := rfl
@[simp] theorem tYesD_ap  (ρ : Env) (st : Sto) : tYesD  ρ st = .ok true st := rfl
@[simp] theorem cCall_ap (m : M) (es : List E)  (ρ : Env) (st : Sto) : cCall m es ρ st = (cArgs es ρ st).bind m := rfl
@[simp] theorem cMeth_ap (c : Nat) (x : Str) (m : M) (o : E) (es : List E)  (ρ : Env) (st : Sto) : cMeth c x m o es ρ st = ((o ρ st).bind fun d st => match d with
  | .loc n => match st[n]? with
    | some (.ins c' fs) => if c' = c ∧ fs.lookup x = none then (cArgs es ρ st).bind fun ds st => m (d :: ds) st else .bad
    | _ => .bad
  | _ => .bad) := rfl
@[simp] theorem cMake_ap (c : Nat) (m : M) (es : List E)  (ρ : Env) (st : Sto) : cMake c m es ρ st = (cArgs es ρ st).bind fun ds st => (m (.loc st.length :: ds) (st ++ [.ins c []])).bind (nonTo st.length) := rfl
@[simp] theorem sRaise_ap (c : Nat)  (ρ : Env) (st : Sto) : sRaise c ρ st = .exc c [] ρ st := rfl
@[simp] theorem sTry_ap (mt : Nat → Option Bool) (body h : S)  (ρ : Env) (st : Sto) : sTry mt body h ρ st = (match body ρ st with
  | .exc c fs ρ' st' => match mt c with
    | some true => fNx (h ρ' st')
    | some false => .exc c fs ρ' st'
    | none => .bad
  | f => f) := rfl
@[simp] theorem cInL_ap (neg : Bool) (a : E) (b : EL)  (ρ : Env) (st : Sto) : cInL neg a b ρ st = ((a ρ st).bind fun x st => (b ρ st).bind fun ys st => match inSeq x ys with
  | some k => .ok (.bl (neg ^^ k)) st
  | none => .bad) := rfl
@[simp] theorem cNewD_ap (e : ED)  (ρ : Env) (st : Sto) : cNewD e ρ st = (e ρ st).bind fun xs st => .ok (.loc st.length) (st ++ [.dct xs]) := rfl
@[simp] theorem cD0_ap  (ρ : Env) (st : Sto) : cD0  ρ st = .ok [] st := rfl
@[simp] theorem cDisp_ap (r : List (E × E))  (ρ : Env) (st : Sto) : cDisp r ρ st = (cPairs r ρ st).bind fun ps st => .ok (mergeD [] ps) st := rfl
@[simp] theorem cDict_ap (e : E)  (ρ : Env) (st : Sto) : cDict e ρ st = (e ρ st).bind dctD := rfl
@[simp] theorem cDictL_ap (e : EL)  (ρ : Env) (st : Sto) : cDictL e ρ st = ((e ρ st).bind fun xs st => match prsD xs with
  | some ps => .ok (mergeD [] ps) st
  | none => .bad) := rfl
@[simp] theorem cKeys_ap (e : E)  (ρ : Env) (st : Sto) : cKeys e ρ st = ((e ρ st).bind dctD).bind fun kvs st => .ok (kvs.map fun kv => kD kv.1) st := rfl
@[simp] theorem cSortedD_ap (e : E)  (ρ : Env) (st : Sto) : cSortedD e ρ st = (((e ρ st).bind dctD).bind fun kvs st => match intKeys kvs with
  | some ns => if ns.length < 64 then .ok ((sortI ns).map D.int) st else .bad
  | none => .bad) := rfl
@[simp] theorem cGet_ap (d k : E)  (ρ : Env) (st : Sto) : cGet d k ρ st = ((d ρ st).bind fun x st => (dctD x st).bind fun _ st => (k ρ st).bind fun y st => (dctD x st).bind fun kvs st => match keyD y with
  | some k => .ok ((valD kvs k).getD .non) st
  | none => .bad) := rfl
@[simp] theorem cGet2_ap (d k z : E)  (ρ : Env) (st : Sto) : cGet2 d k z ρ st = ((d ρ st).bind fun x st => (dctD x st).bind fun _ st => (k ρ st).bind fun y st => (z ρ st).bind fun u st => (dctD x st).bind fun kvs st => match keyD y with
  | some k => .ok ((valD kvs k).getD u) st
  | none => .bad) := rfl
@[simp] theorem lockAt_ap (p : E)  (ρ : Env) (st : Sto) : lockAt p ρ st = (match p ρ st with
  | .ok (.loc n) _ => match st[n]? with
    | some (.dct kvs) => some (n, kvs)
    | _ => none
  | _ => none) := rfl
@[simp] theorem lockD_ap {β : Type} (p : E) (e : Env → Sto → R β)  (ρ : Env) (st : Sto) : lockD p e ρ st = (match lockAt p ρ st with
  | some (n, kvs) => lockGo n (e ρ (st.set n (.fdc kvs)))
  | none => .bad) := rfl
@[simp] theorem cKeysI_ap (e : E)  (ρ : Env) (st : Sto) : cKeysI e ρ st = (e ρ st).bind keysD := rfl
@[simp] theorem pairD_ap (ek ev : E)  (ρ : Env) (st : Sto) : pairD ek ev ρ st = ((ek ρ st).bind fun k st => (ev ρ st).bind fun v st => match keyD k with
  | some k => .ok (k, v) st
  | none => .bad) := rfl
@[simp] theorem cDComp_ap (e : EI) (t : CT) (tt : ET) (ek ev : E) (vs : List Nat)  (ρ : Env) (st : Sto) : cDComp e t tt ek ev vs ρ st = ((e ρ st).bind fun b st =>
  if b.xs.length ≤ sizeLine then (compGo b.chk t tt (pairD ek ev) (wipeD ρ vs) b.xs st).bind fun ps st => .ok (mergeD [] ps) st else .bad) := rfl

@[simp] theorem cArgs_nil (ρ : Env) (st : Sto) : cArgs [] ρ st = .ok [] st := rfl
@[simp] theorem cArgs_cons (e : E) (es : List E) (ρ : Env) (st : Sto) : cArgs (e :: es) ρ st = (e ρ st).bind fun x st => (cArgs es ρ st).bind fun xs st => .ok (x :: xs) st := rfl
@[simp] theorem cLst_ap (es : List E) (ρ : Env) (st : Sto) : cLst es ρ st = cArgs es ρ st := rfl
@[simp] theorem asB_ok (b : Bool) (st : Sto) : asB (.ok (.bl b) st) = .ok b st := rfl
@[simp] theorem asB_exc (c : Nat) (fs : List (Str × D)) (st : Sto) : asB (.exc c fs st) = .exc c fs st := rfl
@[simp] theorem cNx_ok {β : Type} (b : β) (st : Sto) : cNx (.ok b st) = .ok b st := rfl
end PM

set_option Elab.async false
set_option linter.all false
set_option maxRecDepth 100000
set_option maxHeartbeats 1000000
/-! PM14: stores, garbage. -/
namespace PM
open PySem L2
open Classical
theorem get_set_ne {st : Sto} {n m : Nat} {o : O} (h : m ≠ n) : (st.set n o)[m]? = st[m]? := List.getElem?_set_ne (Ne.symm h)
theorem get_set_eq {st : Sto} {n : Nat} {o o' : O} (h : st[n]? = some o') : (st.set n o)[n]? = some o := List.getElem?_set_self (List.getElem?_eq_some_iff.mp h).1
theorem get_app {st : Sto} {n : Nat} {o : O} {g : Sto} (h : st[n]? = some o) : (st ++ g)[n]? = some o := by
  rw [List.getElem?_append_left (List.getElem?_eq_some_iff.mp h).1]; exact h
theorem get_new {st : Sto} {o : O} {g : Sto} : (st ++ o :: g)[st.length]? = some o := by
  rw [List.getElem?_append_right (Nat.le_refl _), Nat.sub_self]; rfl
theorem lt_get {st : Sto} {n : Nat} {o : O} (h : st[n]? = some o) : n < st.length := (List.getElem?_eq_some_iff.mp h).1
theorem gcR_same {st st' : Sto} {d : D} (h : st'.length = st.length) : gcR st (.ok d st') = .ok d st' := by
  show (if st <+: st' ∧ below st.length d = true then R.ok d st else .ok d st') = _
  split
  · rename_i hp
    rw [hp.1.eq_of_length h.symm]
  · rfl
theorem gcR_pure {st g : Sto} {d : D} (h : below st.length d = true) : gcR st (.ok d (st ++ g)) = .ok d st := by
  show (if st <+: st ++ g ∧ below st.length d = true then R.ok d st else .ok d (st ++ g)) = _
  rw [if_pos ⟨List.prefix_append st g, h⟩]
theorem gcR_id {st : Sto} {d : D} : gcR st (.ok d st) = .ok d st := gcR_same rfl
theorem gcR_exc {st st' : Sto} {c : Nat} (h : st'.length = st.length) : gcR st (.exc c [] st') = .exc c [] st' := by
  show (if st <+: st' ∧ ([] : List (Str × D)) = [] then R.exc c [] st else .exc c [] st') = _
  split
  · rename_i hp
    rw [hp.1.eq_of_length h.symm]
  · rfl
theorem gcR_new {st st' : Sto} {d : D} {n : Nat} (hn : n < st.length) (h : st'[n]? ≠ st[n]?) : gcR st (.ok d st') = .ok d st' := by
  show (if st <+: st' ∧ below st.length d = true then R.ok d st else .ok d st') = _
  rw [if_neg]
  rintro ⟨⟨g, rfl⟩, _⟩
  exact h (List.getElem?_append_left hn)
/-- x[i] of a list -/
theorem atI_nat {α : Type} {xs : List α} {i : Nat} {x : α} (h : xs[i]? = some x) : L2.atI xs (i : Int) = some x := by
  have hi := (List.getElem?_eq_some_iff.mp h).1
  unfold L2.atI L2.ixN
  rw [if_pos (Int.natCast_nonneg i), if_pos (by omega)]
  simpa using h
theorem getD_lst {st : Sto} {n : Nat} {xs : List D} {y : D} (h : st[n]? = some (.lst xs)) : getD (.loc n) y st = atD xs y st := by
  simp only [getD, h]
theorem getD_dct {st : Sto} {n : Nat} {xs : List (Key × D)} {y : D} (h : st[n]? = some (.dct xs)) : getD (.loc n) y st = atK xs y st := by
  simp only [getD, h]
theorem getD_fdc {st : Sto} {n : Nat} {xs : List (Key × D)} {y : D} (h : st[n]? = some (.fdc xs)) : getD (.loc n) y st = atK xs y st := by
  simp only [getD, h]
theorem setD_lst {st : Sto} {n : Nat} {xs : List D} {k : Int} {v : D} (h : st[n]? = some (.lst xs)) : setD (.loc n) (.int k) v st = (L2.ixN xs.length k).map fun j => st.set n (.lst (xs.set j v)) := by
  simp only [setD, h]
theorem setD_dct {st : Sto} {n : Nat} {kvs : List (Key × D)} {i : D} {k : Key} {v : D} (h : st[n]? = some (.dct kvs)) (hk : keyD i = some k) (hz : kvs.length < sizeLine) : setD (.loc n) i v st = some (st.set n (.dct (putD kvs k v))) := by
  simp only [setD, h, hk, if_pos hz]
theorem lenD_lst {st : Sto} {n : Nat} {xs : List D} (h : st[n]? = some (.lst xs)) : lenD (.loc n) st = .ok (.int xs.length) st := by
  simp only [lenD, h]
@[simp] theorem int2_int (C : Int → Int → Bool) (g : Int → Int → Int) (i j : Int) (st : Sto) : int2 C g (.int i) (.int j) st = if C i j = true then .ok (.int (g i j)) st else .bad := rfl
@[simp] theorem cmpI_int (g : Int → Int → Bool) (i j : Int) (st : Sto) : cmpI g (.int i) (.int j) st = .ok (.bl (g i j)) st := rfl
@[simp] theorem eqD_int (i j : Int) (st : Sto) : eqD (.int i) (.int j) st = .ok (.bl (decide (i = j))) st := rfl
@[simp] theorem neD_int (i j : Int) (st : Sto) : neD (.int i) (.int j) st = .ok (.bl (!decide (i = j))) st := rfl
@[simp] theorem eqD_str (i j : Str) (st : Sto) : eqD (.str i) (.str j) st = .ok (.bl (decide (i = j))) st := rfl
@[simp] theorem eqD_bl (i j : Bool) (st : Sto) : eqD (.bl i) (.bl j) st = .ok (.bl (decide (i = j))) st := rfl
@[simp] theorem neD_bl (i j : Bool) (st : Sto) : neD (.bl i) (.bl j) st = .ok (.bl (!decide (i = j))) st := rfl
@[simp] theorem addD_int (i j : Int) (st : Sto) : addD (.int i) (.int j) st = .ok (.int (i + j)) st := rfl
@[simp] theorem intD_int (i : Int) (st : Sto) : intD (.int i) st = .ok (.int i) st := rfl
@[simp] theorem subD_int (i j : Int) (st : Sto) : subD (.int i) (.int j) st = .ok (.int (i - j)) st := rfl
theorem modD_int {i j : Int} (st : Sto) (h : j ≠ 0) : modD (.int i) (.int j) st = .ok (.int (i.fmod j)) st := by
  show (if modC i j = true then R.ok (D.int (i.fmod j)) st else .bad) = _
  rw [if_pos (show modC i j = true from decide_eq_true h)]
theorem fdivD_int {i j : Int} (st : Sto) (h : j ≠ 0) (h2 : j.natAbs.log2 < 9000) : fdivD (.int i) (.int j) st = .ok (.int (i.fdiv j)) st := by
  show (if fdivC i j = true then R.ok (D.int (i.fdiv j)) st else .bad) = _
  rw [if_pos]
  unfold fdivC
  simp [h, h2]
theorem mulD_int {i j : Int} (st : Sto) (h : -(2 ^ 64) < j ∧ j < 2 ^ 64) : mulD (.int i) (.int j) st = .ok (.int (i * j)) st := by
  show (if mulC i j = true then R.ok (D.int (i * j)) st else .bad) = _
  rw [if_pos]
  unfold mulC
  simp only [decide_eq_true h, Bool.or_true]
theorem small_log {n : Nat} (h : n < 2 ^ 64) : n.log2 < 9000 := by
  by_cases h0 : n = 0
  · subst h0; decide
  · exact Nat.lt_of_lt_of_le (Nat.log2_lt h0 |>.mpr h) (by decide)
/-! ### loops -/
theorem forGo_inv {chk : Sto → Prop} {g : G} {body : S} (P : Nat → Env → Sto → Prop) : ∀ (xs : List D) (k : Nat), (∀ k ρ st, P k ρ st → chk st) →
    (∀ i x, xs[i]? = some x → ∀ ρ st, P (k + i) ρ st → ∃ ρ1, g x ρ = some ρ1 ∧ ∃ ρ' st', (body ρ1 st = .nx ρ' st' ∨ body ρ1 st = .ct ρ' st') ∧ P (k + i + 1) ρ' st') →
    ∀ ρ st, P k ρ st → ∃ ρ' st', forGo chk g body xs ρ st = .nx ρ' st' ∧ P (k + xs.length) ρ' st'
  | [], k, hc, _, ρ, st, p => ⟨ρ, st, by simp [forGo, hc _ _ _ p], p⟩
  | x :: r, k, hc, hs, ρ, st, p => by
    obtain ⟨ρ1, e1, ρ2, st2, e2, p2⟩ := hs 0 x rfl ρ st p
    obtain ⟨ρ3, st3, e3, p3⟩ := forGo_inv P r (k + 1) hc (fun i y e ρ st q => by
      have := hs (i + 1) y (by simpa using e) ρ st (by rw [show k + (i + 1) = k + 1 + i by omega]; exact q)
      rw [show k + (i + 1) + 1 = k + 1 + i + 1 by omega] at this
      exact this) ρ2 st2 p2
    refine ⟨ρ3, st3, ?_, by rw [List.length_cons, show k + (r.length + 1) = k + 1 + r.length by omega]; exact p3⟩
    unfold forGo
    rw [if_pos (hc _ _ _ p), e1]
    dsimp only
    rcases e2 with e2 | e2 <;> rw [e2] <;> exact e3
theorem compGo_inv {β : Type} {chk : Sto → Prop} {t : CT} {te : Env → Sto → R β} {ρ : Env} (P : Nat → List β → Sto → Prop) : ∀ (xs : List D) (k : Nat) (acc : List β), (∀ k acc st, P k acc st → chk st) →
    (∀ i x, xs[i]? = some x → ∀ acc st, P (k + i) acc st → ∃ ρ1, t.set x ρ = some ρ1 ∧ ∃ y st', te ρ1 st = .ok y st' ∧ P (k + i + 1) (acc ++ [y]) st') →
    ∀ st, P k acc st → ∃ ys st', compGo chk t tYesD te ρ xs st = .ok ys st' ∧ P (k + xs.length) (acc ++ ys) st'
  | [], k, acc, hc, _, st, p => ⟨[], st, by simp [compGo, hc _ _ _ p], by simpa using p⟩
  | x :: r, k, acc, hc, hs, st, p => by
    obtain ⟨ρ1, e1, y, st2, e2, p2⟩ := hs 0 x rfl acc st p
    obtain ⟨ys, st3, e3, p3⟩ := compGo_inv P r (k + 1) (acc ++ [y]) hc (fun i y e acc st q => by
      have := hs (i + 1) y (by simpa using e) acc st (by rw [show k + (i + 1) = k + 1 + i by omega]; exact q)
      rw [show k + (i + 1) + 1 = k + 1 + i + 1 by omega] at this
      exact this) st2 p2
    refine ⟨y :: ys, st3, ?_, ?_⟩
    · unfold compGo
      rw [if_pos (hc _ _ _ p), e1]
      dsimp only
      simp [e2, e3]
    · rw [List.length_cons, show k + (r.length + 1) = k + 1 + r.length by omega]
      simpa using p3
theorem compGo_pure {β : Type} {chk : Sto → Prop} {t : CT} {tt : ET} {te : Env → Sto → R β} {ρ : Env} {st : Sto} (b : D → Bool) (y : D → β) (hc : chk st) : ∀ xs : List D, (∀ x ∈ xs, ∃ ρ1, t.set x ρ = some ρ1 ∧ tt ρ1 st = .ok (b x) st ∧ (b x = true → te ρ1 st = .ok (y x) st)) → compGo chk t tt te ρ xs st = .ok ((xs.filter b).map y) st
  | [], _ => by simp [compGo, hc]
  | x :: r, h => by
    obtain ⟨ρ1, e1, e2, e3⟩ := h x List.mem_cons_self
    have ih := compGo_pure b y hc r fun x hx => h x (List.mem_cons_of_mem _ hx)
    unfold compGo
    rw [if_pos hc, e1]
    dsimp only
    rw [e2]
    cases hb : b x with
    | false => rw [List.filter_cons, hb]; simpa using ih
    | true =>
      rw [List.filter_cons, hb]
      simp [e3 hb, ih]
/-- a dict made of pairs whose keys are all different -/
theorem merge_append : ∀ (ps acc : List (Key × D)), ((acc ++ ps).map (·.1)).Nodup → mergeD acc ps = acc ++ ps
  | [], acc, _ => by simp [mergeD]
  | (k, v) :: r, acc, h => by
    have e : putD acc k v = acc ++ [(k, v)] := by
      unfold putD
      rw [if_neg]
      intro z
      obtain ⟨p, hp, e⟩ := List.any_eq_true.mp z
      have e := of_decide_eq_true e
      rw [List.map_append, List.nodup_append] at h
      exact h.2.2 p.1 (List.mem_map_of_mem hp) k (by simp) e
    show mergeD (putD acc k v) r = _
    rw [e, merge_append r (acc ++ [(k, v)]) (by simpa using h)]
    simp
theorem merge_nodup {ps : List (Key × D)} (h : (ps.map (·.1)).Nodup) : mergeD [] ps = ps := merge_append ps [] h
end PM

set_option Elab.async false
set_option linter.all false
set_option maxRecDepth 100000
set_option maxHeartbeats 4000000
/-! the mirrors of k25 (printed by gen.py) -/
namespace PMl
open PySem PM
def mt_Fallen : Nat → Option Bool
  | 2 => some true
  | _ => none
noncomputable def b__law_is_same (m : M) : S := (sSeq (sIf (cTru (cB1 (isiD .tuple) (cVar 1))) (sSeq (sIf (tOrD (tNotD (cTru (cB1 (isiD .tuple) (cVar 0)))) (cTst (cOp2 neD (cB1 lenD (cVar 0)) (cB1 lenD (cVar 1))))) (sRet (cC (.bl false))) sNext)
  (sRet (cS1 allS (cComp (cRng1 (cB1 lenD (cVar 1))) (.one 2) tYesD (cCall m [(cOp2 getD (cVar 0) (cVar 2)), (cOp2 getD (cVar 1) (cVar 2))]) [2])))) sNext)
  (sSeq (sIf (cTru (cB1 (isiD .str) (cVar 1))) (sRet (cAnd (cB1 (isiD .str) (cVar 0)) (cOp2 eqD (cVar 0) (cVar 1)))) sNext)
  (sSeq (sIf (cTst (cOp2 isND (cVar 1) (cC .non))) (sRet (cOp2 isND (cVar 0) (cC .non))) sNext)
  (sRet (cAnd (cB1 (isiD .int) (cVar 0)) (cAnd (cNot (cB1 (isiD .bool) (cVar 0))) (cOp2 eqD (cVar 0) (cVar 1))))))))
noncomputable def m__law_is_same : Nat → M
  | 0 => fun _ _ => .bad
  | n + 1 => mDef 3 (b__law_is_same (m__law_is_same n))
noncomputable def b_Disk_read : S := (sSeq (sIf (cTst (cOp2 notInD (cVar 1) (cB1 (fldOf [0] "_there") (cVar 0)))) (sRet (cTup [])) sNext)
  (sRet (cOp2 getD (cB1 (fldOf [0] "_there") (cVar 0)) (cVar 1))))
noncomputable def m_Disk_read : M := mDef 2 b_Disk_read
noncomputable def b_Disk_numbers : S := (sRet (cS1 tupS (cSortedD (cB1 (fldOf [0] "_there") (cVar 0)))))
noncomputable def m_Disk_numbers : M := mDef 1 b_Disk_numbers
noncomputable def b_Disk_is_fallen : S := (sRet (cB1 (fldOf [0] "_fallen") (cVar 0)))
noncomputable def m_Disk_is_fallen : M := mDef 1 b_Disk_is_fallen
noncomputable def b__law_is_right : S := (sSeq (sSet 2 (cS1 tupS (cS1 sortedS (lockD (cOp2 getD (cVar 1) (cC (.str "there"))) (cComp (cKeysI (cOp2 getD (cVar 1) (cC (.str "there")))) (.one 4) tYesD (cVar 4) [4])))))
  (sSeq (sSet 3 (cMeth 0 "is_fallen" m_Disk_is_fallen (cVar 0) []))
  (sSeq (sIf (tOrD (tNotD (cTru (cCall (m__law_is_same 3) [(cMeth 0 "numbers" m_Disk_numbers (cVar 0) []), (cVar 2)]))) (tOrD (tNotD (cTru (cB1 (isiD .bool) (cVar 3)))) (cTst (cOp2 neD (cVar 3) (cOp2 getD (cVar 1) (cC (.str "fallen"))))))) (sRet (cC (.bl false))) sNext)
  (sSeq (sFor (cItr (cVar 2)) (gN 4) (sIf (tNotD (cTru (cCall (m__law_is_same 3) [(cMeth 0 "read" m_Disk_read (cVar 0) [(cVar 4)]), (cOp2 getD (cOp2 getD (cVar 1) (cC (.str "there"))) (cVar 4))]))) (sRet (cC (.bl false))) sNext))
  (sRet (cCall (m__law_is_same 3) [(cMeth 0 "read" m_Disk_read (cVar 0) [(cC (.int 77))]), (cTup [])]))))))
noncomputable def m__law_is_right : M := mDef 5 b__law_is_right
noncomputable def b_torn : S := (sSeq (sSet 3 (cSlice (cVar 0) cNoPart (cPart (cOp2 modD (cVar 1) (cOp2 addD (cB1 lenD (cVar 0)) (cC (.int 1)))))))
  (sSeq (sIf (tAndD (cTst (cOp2 gtD (cB1 lenD (cVar 3)) (cC (.int 0)))) (cTst (cOp2 eqD (cOp2 modD (cVar 2) (cC (.int 2))) (cC (.int 1))))) (sSeq (sSet 4 (cOp2 modD (cOp2 fdivD (cVar 2) (cC (.int 2))) (cB1 lenD (cVar 3))))
  (sSeq (sSet 5 (cOp2 modD (cOp2 addD (cOp2 addD (cOp2 getD (cVar 3) (cVar 4)) (cC (.int 1))) (cOp2 modD (cOp2 fdivD (cOp2 fdivD (cVar 2) (cC (.int 2))) (cB1 lenD (cVar 3))) (cC (.int 255)))) (cC (.int 256))))
  (sSet 3 (cOp2 addD (cOp2 addD (cSlice (cVar 3) cNoPart (cPart (cVar 4))) (cTup [(cVar 5)])) (cSlice (cVar 3) (cPart (cOp2 addD (cVar 4) (cC (.int 1)))) cNoPart))))) sNext)
  (sRet (cVar 3))))
noncomputable def m_torn : M := mDef 6 b_torn
noncomputable def b_choice : S := (sSeq (sIf (cTst (cOp2 ltD (cVar 1) (cB1 lenD (cVar 0)))) (sRet (cOp2 getD (cVar 0) (cVar 1))) sNext)
  (sRet (cC (.int 0))))
noncomputable def m_choice : M := mDef 2 b_choice
noncomputable def b_Disk_rise : S := (sSeq (sSet 2 (cNewD cD0))
  (sSeq (sSet 3 (cC (.int 0)))
  (sSeq (sFor (cItl (cS1 sortSetS (cCatL (cKeys (cB1 (fldOf [0] "_sure") (cVar 0))) (cKeys (cB1 (fldOf [0] "_there") (cVar 0)))))) (gN 4) (sSeq (sIf (cTst (cOp2 notInD (cVar 4) (cB1 (fldOf [0] "_there") (cVar 0)))) (sSeq (sIf (cTst (cOp2 eqD (cOp2 modD (cCall m_choice [(cVar 1), (cVar 3)]) (cC (.int 2))) (cC (.int 1)))) (sSub (cVar 2) (cVar 4) (cOp2 getD (cB1 (fldOf [0] "_sure") (cVar 0)) (cVar 4))) sNext)
  (sSeq (sAug 3 iaddD (cC (.int 1)))
  sCont)) sNext)
  (sSeq (sSet 5 (cGet2 (cB1 (fldOf [0] "_sure") (cVar 0)) (cVar 4) (cTup [])))
  (sSeq (sSet 6 (cSlice (cOp2 getD (cB1 (fldOf [0] "_there") (cVar 0)) (cVar 4)) (cPart (cB1 lenD (cVar 5))) cNoPart))
  (sSeq (sIf (cTst (cOp2 gtD (cB1 lenD (cVar 6)) (cC (.int 0)))) (sSeq (sSet 5 (cOp2 addD (cVar 5) (cCall m_torn [(cVar 6), (cCall m_choice [(cVar 1), (cVar 3)]), (cCall m_choice [(cVar 1), (cOp2 addD (cVar 3) (cC (.int 1)))])])))
  (sAug 3 iaddD (cC (.int 2)))) sNext)
  (sIf (tOrD (cTst (cOp2 inD (cVar 4) (cB1 (fldOf [0] "_sure") (cVar 0)))) (cTst (cOp2 gtD (cB1 lenD (cVar 5)) (cC (.int 0))))) (sSub (cVar 2) (cVar 4) (cVar 5)) sNext))))))
  (sSeq (sFldD [0] "_there" (cVar 0) (cVar 2))
  (sSeq (sFldD [0] "_sure" (cVar 0) (cNewD (lockD (cVar 2) (cDComp (cKeysI (cVar 2)) (.one 4) tYesD (cVar 4) (cOp2 getD (cVar 2) (cVar 4)) [4]))))
  (sSeq (sFldD [0] "_left" (cVar 0) (cC (.int 0)))
  (sFldD [0] "_fallen" (cVar 0) (cC (.bl false)))))))))
noncomputable def m_Disk_rise : M := mDef 7 b_Disk_rise
noncomputable def b__law_torn : S := (sSeq (sSet 3 (cNew (cS1 lstS (cSeq (cSlice (cVar 0) cNoPart (cPart (cOp2 modD (cB1 intD (cVar 1)) (cOp2 addD (cB1 lenD (cVar 0)) (cC (.int 1))))))))))
  (sSeq (sIf (tAndD (cTst (cOp2 neD (cVar 3) (cNew (cLst [])))) (cTst (cOp2 eqD (cOp2 modD (cB1 intD (cVar 2)) (cC (.int 2))) (cC (.int 1))))) (sSeq (sSet 4 (cOp2 modD (cB1 intD (cOp2 fdivD (cVar 2) (cC (.int 2)))) (cB1 lenD (cVar 3))))
  (sSub (cVar 3) (cVar 4) (cOp2 modD (cB1 intD (cOp2 addD (cOp2 addD (cOp2 getD (cVar 3) (cVar 4)) (cC (.int 1))) (cOp2 modD (cB1 intD (cOp2 fdivD (cOp2 fdivD (cVar 2) (cC (.int 2))) (cB1 lenD (cVar 3)))) (cC (.int 255))))) (cC (.int 256))))) sNext)
  (sRet (cS1 tupS (cSeq (cVar 3))))))
noncomputable def m__law_torn : M := mDef 5 b__law_torn
noncomputable def b__law_rise : S := (sSeq (sSet 2 (cNew (cCatL (cS1 lstS (cSeq (cVar 1))) (cRepL (cLst [(cC (.int 0))]) (cC (.int 20))))))
  (sSeq (sSet 3 (cNewD cD0))
  (sSeq (sFor (cRng1 (cC (.int 60))) (gN 4) (sIf (tAndD (cTst (cOp2 inD (cVar 4) (cOp2 getD (cVar 0) (cC (.str "sure"))))) (cTst (cOp2 notInD (cVar 4) (cOp2 getD (cVar 0) (cC (.str "there")))))) (sSeq (sIf (cTst (cOp2 eqD (cOp2 modD (cB1 intD (cOp2 getD (cVar 2) (cC (.int 0)))) (cC (.int 2))) (cC (.int 1)))) (sSub (cVar 3) (cVar 4) (cOp2 getD (cOp2 getD (cVar 0) (cC (.str "sure"))) (cVar 4))) sNext)
  (sSet 2 (cSlice (cVar 2) (cPart (cC (.int 1))) cNoPart))) (sIf (cTst (cOp2 inD (cVar 4) (cOp2 getD (cVar 0) (cC (.str "there"))))) (sSeq (sSet 5 (cGet2 (cOp2 getD (cVar 0) (cC (.str "sure"))) (cVar 4) (cTup [])))
  (sSeq (sSet 6 (cSlice (cOp2 getD (cOp2 getD (cVar 0) (cC (.str "there"))) (cVar 4)) (cPart (cB1 lenD (cVar 5))) cNoPart))
  (sSeq (sIf (cTst (cOp2 gtD (cB1 lenD (cVar 6)) (cC (.int 0)))) (sSeq (sSet 5 (cOp2 addD (cVar 5) (cCall m__law_torn [(cVar 6), (cOp2 getD (cVar 2) (cC (.int 0))), (cOp2 getD (cVar 2) (cC (.int 1)))])))
  (sSet 2 (cSlice (cVar 2) (cPart (cC (.int 2))) cNoPart))) sNext)
  (sIf (tOrD (cTst (cOp2 inD (cVar 4) (cOp2 getD (cVar 0) (cC (.str "sure"))))) (cTst (cOp2 gtD (cB1 lenD (cVar 5)) (cC (.int 0))))) (sSub (cVar 3) (cVar 4) (cVar 5)) sNext)))) sNext)))
  (sSeq (sSub (cVar 0) (cC (.str "sure")) (cVar 3))
  (sSeq (sSub (cVar 0) (cC (.str "there")) (cNewD (cDict (cVar 3))))
  (sSeq (sSub (cVar 0) (cC (.str "left")) (cC (.int 0)))
  (sSub (cVar 0) (cC (.str "fallen")) (cC (.bl false)))))))))
noncomputable def m__law_rise : M := mDef 7 b__law_rise
noncomputable def b__law_draw : S := (sSeq (sIf (cTst (cOp2 eqD (cOp2 getD (cVar 0) (cC (.int 0))) (cC (.int 0)))) (sSeq (sSet 2 (cOp2 modD (cB1 intD (cOp2 addD (cOp2 addD (cOp2 mulD (cOp2 getD (cVar 0) (cC (.int 1))) (cC (.int 48271))) (cOp2 mulD (cOp2 getD (cVar 0) (cC (.int 2))) (cC (.int 69621)))) (cC (.int 11)))) (cC (.int 2147483647))))
  (sSeq (sSub (cVar 0) (cC (.int 0)) (cOp2 addD (cOp2 mulD (cVar 2) (cC (.int 2147483629))) (cOp2 modD (cB1 intD (cOp2 addD (cOp2 mulD (cVar 2) (cVar 2)) (cOp2 mulD (cOp2 getD (cVar 0) (cC (.int 2))) (cC (.int 16807))))) (cC (.int 2147483629)))))
  (sSub (cVar 0) (cC (.int 1)) (cVar 2)))) sNext)
  (sSeq (sSet 3 (cOp2 getD (cVar 0) (cC (.int 0))))
  (sSeq (sSub (cVar 0) (cC (.int 0)) (cOp2 fdivD (cVar 3) (cVar 1)))
  (sRet (cOp2 modD (cB1 intD (cVar 3)) (cVar 1))))))
noncomputable def m__law_draw : M := mDef 4 b__law_draw
noncomputable def b_Disk_arm : S := (sFldD [0] "_left" (cVar 0) (cVar 1))
noncomputable def m_Disk_arm : M := mDef 2 b_Disk_arm
noncomputable def b_Disk__falls : S := (sSeq (sIf (cTru (cB1 (fldOf [0] "_fallen") (cVar 0))) (sRaise 2) sNext)
  (sSeq (sIf (cTst (cOp2 gtD (cB1 (fldOf [0] "_left") (cVar 0)) (cC (.int 0)))) (sSeq (sFldAugD [0] "_left" isubD (cVar 0) (cC (.int 1)))
  (sFldD [0] "_fallen" (cVar 0) (cOp2 eqD (cB1 (fldOf [0] "_left") (cVar 0)) (cC (.int 0))))) sNext)
  (sRet (cB1 (fldOf [0] "_fallen") (cVar 0)))))
noncomputable def m_Disk__falls : M := mDef 1 b_Disk__falls
noncomputable def b_Disk_append : S := (sSeq (sSet 3 (cMeth 0 "_falls" m_Disk__falls (cVar 0) []))
  (sSeq (sSub (cB1 (fldOf [0] "_there") (cVar 0)) (cVar 1) (cOp2 addD (cMeth 0 "read" m_Disk_read (cVar 0) [(cVar 1)]) (cS1 tupS (cSeq (cVar 2)))))
  (sIf (cTru (cVar 3)) (sRaise 2) sNext)))
noncomputable def m_Disk_append : M := mDef 4 b_Disk_append
noncomputable def b_Disk_drop : S := (sSeq (sSet 2 (cMeth 0 "_falls" m_Disk__falls (cVar 0) []))
  (sSeq (sIf (cTst (cOp2 inD (cVar 1) (cB1 (fldOf [0] "_there") (cVar 0)))) (sDel (cB1 (fldOf [0] "_there") (cVar 0)) (cVar 1)) sNext)
  (sIf (cTru (cVar 2)) (sRaise 2) sNext)))
noncomputable def m_Disk_drop : M := mDef 3 b_Disk_drop
noncomputable def b_Disk_flush : S := (sSeq (sIf (cTru (cMeth 0 "_falls" m_Disk__falls (cVar 0) [])) (sRaise 2) sNext)
  (sFldD [0] "_sure" (cVar 0) (cNewD (lockD (cB1 (fldOf [0] "_there") (cVar 0)) (cDComp (cKeysI (cB1 (fldOf [0] "_there") (cVar 0))) (.one 1) tYesD (cVar 1) (cOp2 getD (cB1 (fldOf [0] "_there") (cVar 0)) (cVar 1)) [1])))))
noncomputable def m_Disk_flush : M := mDef 2 b_Disk_flush
noncomputable def b__law_told_deed : S := (sSeq (sTry mt_Fallen (sIf (cTst (cOp2 eqD (cVar 1) (cC (.str "append")))) (sSet 4 (cMeth 0 "append" m_Disk_append (cVar 0) [(cVar 2), (cVar 3)])) (sIf (cTst (cOp2 eqD (cVar 1) (cC (.str "drop")))) (sSet 4 (cMeth 0 "drop" m_Disk_drop (cVar 0) [(cVar 2)])) (sSet 4 (cMeth 0 "flush" m_Disk_flush (cVar 0) [])))) (sRet (cC (.bl false))))
  (sRet (cOp2 isND (cVar 4) (cC .non))))
noncomputable def m__law_told_deed : M := mDef 5 b__law_told_deed
noncomputable def b__law_deed : S := (sSeq (sIf (cTru (cOp2 getD (cVar 0) (cC (.str "fallen")))) (sRet (cC (.bl false))) sNext)
  (sSeq (sIf (cTst (cOp2 gtD (cOp2 getD (cVar 0) (cC (.str "left"))) (cC (.int 0)))) (sSeq (sSub (cVar 0) (cC (.str "left")) (cOp2 subD (cOp2 getD (cVar 0) (cC (.str "left"))) (cC (.int 1))))
  (sSub (cVar 0) (cC (.str "fallen")) (cOp2 eqD (cOp2 getD (cVar 0) (cC (.str "left"))) (cC (.int 0))))) sNext)
  (sSeq (sIf (cTst (cOp2 eqD (cVar 1) (cC (.str "append")))) (sSeq (sSet 4 (cNewD (cDict (cOp2 getD (cVar 0) (cC (.str "there"))))))
  (sSeq (sSub (cVar 4) (cVar 2) (cOp2 addD (cGet2 (cVar 4) (cVar 2) (cTup [])) (cVar 3)))
  (sSub (cVar 0) (cC (.str "there")) (cVar 4)))) sNext)
  (sSeq (sIf (cTst (cOp2 eqD (cVar 1) (cC (.str "drop")))) (sSub (cVar 0) (cC (.str "there")) (cNewD (cDictL (lockD (cOp2 getD (cVar 0) (cC (.str "there"))) (cComp (cKeysI (cOp2 getD (cVar 0) (cC (.str "there")))) (.one 5) (cTst (cOp2 neD (cVar 5) (cVar 2))) (cTup [(cVar 5), (cOp2 getD (cOp2 getD (cVar 0) (cC (.str "there"))) (cVar 5))]) [5]))))) sNext)
  (sSeq (sIf (tAndD (cTst (cOp2 eqD (cVar 1) (cC (.str "flush")))) (tNotD (cTru (cOp2 getD (cVar 0) (cC (.str "fallen")))))) (sSub (cVar 0) (cC (.str "sure")) (cNewD (cDict (cOp2 getD (cVar 0) (cC (.str "there")))))) sNext)
  (sRet (cNot (cOp2 getD (cVar 0) (cC (.str "fallen"))))))))))
noncomputable def m__law_deed : M := mDef 6 b__law_deed
noncomputable def b__law_turn : S := (sSeq (sSet 4 (cCall m__law_draw [(cVar 0), (cC (.int 10))]))
  (sSeq (sSet 5 (cCall m__law_draw [(cVar 0), (cC (.int 5))]))
  (sSeq (sIf (cTst (cOp2 ltD (cVar 4) (cC (.int 5)))) (sSeq (sSet 6 (cS1 tupS (cComp (cRng1 (cCall m__law_draw [(cVar 0), (cC (.int 7))])) (.one 12) tYesD (cCall m__law_draw [(cVar 0), (cC (.int 256))]) [12])))
  (sRet (cOp2 eqD (cCall m__law_told_deed [(cVar 1), (cC (.str "append")), (cOp2 getD (cVar 3) (cVar 5)), (cVar 6)]) (cCall m__law_deed [(cVar 2), (cC (.str "append")), (cOp2 getD (cVar 3) (cVar 5)), (cVar 6)])))) sNext)
  (sSeq (sIf (cTst (cOp2 eqD (cVar 4) (cC (.int 5)))) (sSeq (sSet 7 (cCall m__law_deed [(cVar 2), (cC (.str "drop")), (cOp2 getD (cVar 3) (cVar 5)), (cTup [])]))
  (sSeq (sSet 8 (cCall m__law_told_deed [(cVar 1), (cC (.str "drop")), (cOp2 getD (cVar 3) (cVar 5)), (cTup [])]))
  (sSeq (sSub (cVar 3) (cVar 5) (cOp2 addD (cS1 maxS (cLs (cVar 3))) (cC (.int 1))))
  (sRet (cOp2 eqD (cVar 8) (cVar 7)))))) sNext)
  (sSeq (sIf (cTst (cOp2 ltD (cVar 4) (cC (.int 8)))) (sRet (cOp2 eqD (cCall m__law_told_deed [(cVar 1), (cC (.str "flush")), (cC (.int 0)), (cTup [])]) (cCall m__law_deed [(cVar 2), (cC (.str "flush")), (cC (.int 0)), (cTup [])]))) sNext)
  (sSeq (sIf (cTst (cOp2 eqD (cVar 4) (cC (.int 8)))) (sSeq (sSet 9 (cIxL (cLst [(cC (.int 0)), (cC (.int 1)), (cC (.int 1)), (cC (.int 2)), (cC (.int 4))]) (cCall m__law_draw [(cVar 0), (cC (.int 5))])))
  (sSeq (sIf (tNotD (cTru (cOp2 getD (cVar 2) (cC (.str "fallen"))))) (sSeq (sSub (cVar 2) (cC (.str "left")) (cVar 9))
  (sRet (cOp2 isND (cMeth 0 "arm" m_Disk_arm (cVar 1) [(cVar 9)]) (cC .non)))) sNext)
  (sRet (cC (.bl true))))) sNext)
  (sSeq (sSet 10 (cCall m__law_draw [(cVar 0), (cC (.int 9))]))
  (sSeq (sSet 11 (cS1 tupS (cComp (cRng1 (cVar 10)) (.one 12) tYesD (cIxL (cLst [(cCall m__law_draw [(cVar 0), (cC (.int 8))]), (cCall m__law_draw [(cVar 0), (cC (.int 100000))]), (cC (.int 1))]) (cCall m__law_draw [(cVar 0), (cC (.int 3))])) [12])))
  (sSeq (sExp (cCall m__law_rise [(cVar 2), (cVar 11)]))
  (sRet (cOp2 isND (cMeth 0 "rise" m_Disk_rise (cVar 1) [(cVar 11)]) (cC .non))))))))))))
noncomputable def m__law_turn : M := mDef 13 b__law_turn
noncomputable def b__law_disk : S := (sRet (cNewD (cDisp [((cC (.str "sure")), (cNewD cD0)), ((cC (.str "there")), (cNewD cD0)), ((cC (.str "left")), (cC (.int 0))), ((cC (.str "fallen")), (cC (.bl false)))])))
noncomputable def m__law_disk : M := mDef 0 b__law_disk
noncomputable def b_Disk_init : S := (sSeq (sFldD [0] "_sure" (cVar 0) (cNewD cD0))
  (sSeq (sFldD [0] "_there" (cVar 0) (cNewD cD0))
  (sSeq (sFldD [0] "_left" (cVar 0) (cC (.int 0)))
  (sFldD [0] "_fallen" (cVar 0) (cC (.bl false))))))
noncomputable def m_Disk_init : M := mDef 1 b_Disk_init
noncomputable def b__law_bag : S := (sSeq (sSet 2 (cC (.int 0)))
  (sSeq (sIf (cTst (cOp2 ltD (cVar 1) (cB1 lenD (cVar 0)))) (sSet 2 (cB1 intD (cOp2 getD (cVar 0) (cVar 1)))) sNext)
  (sSeq (sIf (cTst (cOp2 geD (cVar 2) (cOp2 powD (cC (.int 10)) (cC (.int 18))))) (sRet (cNew (cLst [(cVar 2), (cVar 2), (cVar 1)]))) sNext)
  (sRet (cNew (cLst [(cC (.int 0)), (cVar 2), (cVar 1)]))))))
noncomputable def m__law_bag : M := mDef 3 b__law_bag
noncomputable def b_law : S := (sSeq (sFor (cRng1 (cOp2 min2D (cOp2 max2D (cB1 lenD (cVar 0)) (cC (.int 1))) (cC (.int 3)))) (gN 1) (sSeq (sSet 2 (cCall m__law_bag [(cVar 0), (cVar 1)]))
  (sSeq (sSet 3 (cNew (cLst [(cMake 0 m_Disk_init []), (cMake 0 m_Disk_init [])])))
  (sSeq (sSet 4 (cNew (cLst [(cCall m__law_disk []), (cCall m__law_disk [])])))
  (sSeq (sSet 5 (cNew (cLst [(cNew (cLst [(cC (.int 0)), (cC (.int 1)), (cC (.int 2)), (cC (.int 3)), (cC (.int 4))])), (cNew (cLst [(cC (.int 0)), (cC (.int 1)), (cC (.int 2)), (cC (.int 7)), (cC (.int 9))]))])))
  (sFor (cRng1 (cC (.int 30))) (gN 6) (sSeq (sSet 7 (cCall m__law_draw [(cVar 2), (cC (.int 2))]))
  (sSeq (sIf (tNotD (cTru (cCall m__law_turn [(cVar 2), (cOp2 getD (cVar 3) (cVar 7)), (cOp2 getD (cVar 4) (cVar 7)), (cOp2 getD (cVar 5) (cVar 7))]))) (sRet (cC (.bl false))) sNext)
  (sFor (cRng1 (cC (.int 2))) (gN 8) (sIf (tNotD (cTru (cCall m__law_is_right [(cOp2 getD (cVar 3) (cVar 8)), (cOp2 getD (cVar 4) (cVar 8))]))) (sRet (cC (.bl false))) sNext))))))))))
  (sRet (cC (.bl true))))
noncomputable def m_law : M := mDef 9 b_law
end PMl

set_option Elab.async false
set_option linter.all false
set_option maxRecDepth 100000
set_option maxHeartbeats 1000000
/-! the plain law of k25, 1: small defs. -/
namespace PMl
open PySem PM L2

/-! ### the bag -/
def bagO (x y z : Int) : O := .lst [.int x, .int y, .int z]
theorem set_self {st : Sto} {n : Nat} {o : O} (h : st[n]? = some o) : st.set n o = st := by
  apply List.ext_getElem?
  intro i
  by_cases e : i = n
  · subst e; rw [List.getElem?_set_self (lt_get h), h]
  · rw [List.getElem?_set_ne (Ne.symm e)]
theorem draw_ok {st : Sto} {b : Nat} {x y z many : Int} (h : st[b]? = some (bagO x y z)) (h1 : 0 < many) (h2 : many ≤ 2 ^ 31) :
    ∃ v x' y', m__law_draw [.loc b, .int many] st = .ok (.int v) (st.set b (bagO x' y' z)) ∧ 0 ≤ v ∧ v < many := by
  have hb := lt_get h
  have q1 : ∀ (o : O), (st.set b o)[b]? = some o := fun o => List.getElem?_set_self hb
  have g0 : ∀ (x y z : Int), getD (.loc b) (.int 0) (st.set b (bagO x y z)) = .ok (.int x) (st.set b (bagO x y z)) := fun x y z => (getD_lst (q1 _)).trans rfl
  have g1 : ∀ (x y z : Int), getD (.loc b) (.int 1) (st.set b (bagO x y z)) = .ok (.int y) (st.set b (bagO x y z)) := fun x y z => (getD_lst (q1 _)).trans rfl
  have g2 : ∀ (x y z : Int), getD (.loc b) (.int 2) (st.set b (bagO x y z)) = .ok (.int z) (st.set b (bagO x y z)) := fun x y z => (getD_lst (q1 _)).trans rfl
  have s0 : ∀ (v x y z : Int), setD (.loc b) (.int 0) (.int v) (st.set b (bagO x y z)) = some (st.set b (bagO v y z)) := fun v x y z => (setD_lst (q1 _)).trans (show some ((st.set b _).set b _) = _ by rw [List.set_set]; rfl)
  have s1 : ∀ (v x y z : Int), setD (.loc b) (.int 1) (.int v) (st.set b (bagO x y z)) = some (st.set b (bagO x v z)) := fun v x y z => (setD_lst (q1 _)).trans (show some ((st.set b _).set b _) = _ by rw [List.set_set]; rfl)
  have hm : many.natAbs.log2 < 9000 := small_log (by omega)
  have e1 : ∀ (i : Int) (s : Sto), modD (.int i) (.int 2147483647) s = .ok (.int (i.fmod 2147483647)) s := fun i s => modD_int s (by decide)
  have e2 : ∀ (i : Int) (s : Sto), modD (.int i) (.int 2147483629) s = .ok (.int (i.fmod 2147483629)) s := fun i s => modD_int s (by decide)
  have e3 : ∀ (i : Int) (s : Sto), modD (.int i) (.int many) s = .ok (.int (i.fmod many)) s := fun i s => modD_int s (by omega)
  have e4 : ∀ (i : Int) (s : Sto), fdivD (.int i) (.int many) s = .ok (.int (i.fdiv many)) s := fun i s => fdivD_int s (by omega) hm
  have m1 : ∀ (i : Int) (s : Sto), mulD (.int i) (.int 48271) s = .ok (.int (i * 48271)) s := fun i s => mulD_int s (by decide)
  have m2 : ∀ (i : Int) (s : Sto), mulD (.int i) (.int 69621) s = .ok (.int (i * 69621)) s := fun i s => mulD_int s (by decide)
  have m3 : ∀ (i : Int) (s : Sto), mulD (.int i) (.int 2147483629) s = .ok (.int (i * 2147483629)) s := fun i s => mulD_int s (by decide)
  have m4 : ∀ (i : Int) (s : Sto), mulD (.int i) (.int 16807) s = .ok (.int (i * 16807)) s := fun i s => mulD_int s (by decide)
  have fin : ∀ (r : Int), 0 ≤ r.fmod many ∧ r.fmod many < many := fun r => ⟨Int.fmod_nonneg_of_pos r h1, Int.fmod_lt_of_pos r h1⟩
  have key : ∀ {v x' y' : Int}, (b__law_draw [some (.loc b), some (.int many), none, none] (st.set b (bagO x y z)) = .rt (.int v) (st.set b (bagO x' y' z)) ∧ 0 ≤ v ∧ v < many) → m__law_draw [.loc b, .int many] st = .ok (.int v) (st.set b (bagO x' y' z)) ∧ 0 ≤ v ∧ v < many := fun {v x' y'} ⟨e, h3⟩ => by
    refine ⟨?_, h3⟩
    show gcR st (outR (b__law_draw [some (.loc b), some (.int many), none, none] st)) = _
    rw [set_self h] at e
    rw [e]
    exact gcR_same List.length_set
  by_cases hx : x = 0
  · subst hx
    generalize hs : (y * 48271 + z * 69621 + 11).fmod 2147483647 = sd
    have m5 : ∀ (s : Sto), mulD (.int sd) (.int sd) s = .ok (.int (sd * sd)) s := fun s => mulD_int s (by
      have := Int.fmod_nonneg_of_pos (y * 48271 + z * 69621 + 11) (show (0 : Int) < 2147483647 by decide)
      have := Int.fmod_lt_of_pos (y * 48271 + z * 69621 + 11) (show (0 : Int) < 2147483647 by decide)
      omega)
    generalize hr : sd * 2147483629 + (sd * sd + z * 16807).fmod 2147483629 = r
    refine ⟨r.fmod many, r.fdiv many, sd, key ⟨?_, fin r⟩⟩
    unfold b__law_draw
    simp [g0, g1, g2, e1, e2, e3, e4, m1, m2, m3, m4, m5, s0, s1, hs, hr]
  · refine ⟨x.fmod many, x.fdiv many, y, key ⟨?_, fin x⟩⟩
    unfold b__law_draw
    simp [g0, g1, g2, hx, e1, e2, e3, e4, m1, m2, m3, m4, s0, s1]

/-! ### rows, dicts of rows -/
def rowD (r : List Int) : D := .tup (r.map .int)
abbrev KV := List (Int × List Int)
def kvD (l : KV) : List (Key × D) := l.map fun p => (.inl p.1, rowD p.2)
def getR (l : KV) (k : Int) : Option (List Int) := (l.find? fun p => decide (p.1 = k)).map (·.2)
def putR (l : KV) (k : Int) (r : List Int) : KV := if l.any (fun p => decide (p.1 = k)) then l.map fun p => if p.1 = k then (p.1, r) else p else l ++ [(k, r)]
def dropR (l : KV) (k : Int) : KV := l.filter fun p => decide (p.1 ≠ k)
theorem inl_iff {a b : Int} : ((Sum.inl a : Key) = Sum.inl b) ↔ a = b := ⟨fun h => Sum.inl.inj h, fun h => by rw [h]⟩
theorem val_kvD (l : KV) (k : Int) : valD (kvD l) (.inl k) = (getR l k).map rowD := by
  unfold valD kvD getR
  induction l with
  | nil => rfl
  | cons p r ih =>
    rw [List.map_cons, List.find?_cons, List.find?_cons]
    by_cases e : p.1 = k
    · simp [e]
    · simp only [inl_iff, e, decide_false]; exact ih
theorem put_kvD (l : KV) (k : Int) (r : List Int) : putD (kvD l) (.inl k) (rowD r) = kvD (putR l k r) := by
  unfold putD putR
  have e1 : ((kvD l).any fun kv => decide (kv.1 = Sum.inl k)) = l.any fun p => decide (p.1 = k) := by
    unfold kvD
    rw [List.any_map]
    congr 1
    funext p
    simp only [Function.comp, inl_iff]
  rw [e1]
  split
  · unfold kvD
    rw [List.map_map, List.map_map]
    congr 1
    funext p
    simp only [Function.comp, inl_iff]
    split <;> rfl
  · unfold kvD; rw [List.map_append]; rfl
theorem drop_kvD (l : KV) (k : Int) : dropD (kvD l) (.inl k) = kvD (dropR l k) := by
  unfold dropD dropR kvD
  rw [List.filter_map]
  congr 1
  congr 1
  funext p
  simp only [Function.comp, ne_eq, inl_iff]

/-! ### a disk, its model -/
def diskF (a b c e : D) : List (Str × D) := [("_sure", a), ("_there", b), ("_left", c), ("_fallen", e)]
def modK (a b c e : D) : List (Key × D) := [(.inr "sure", a), (.inr "there", b), (.inr "left", c), (.inr "fallen", e)]
theorem n12 : (("_there" : Str) == ("_sure" : Str)) = false := by decide +kernel
theorem n13 : (("_left" : Str) == ("_sure" : Str)) = false := by decide +kernel
theorem n14 : (("_fallen" : Str) == ("_sure" : Str)) = false := by decide +kernel
theorem n23 : (("_left" : Str) == ("_there" : Str)) = false := by decide +kernel
theorem n24 : (("_fallen" : Str) == ("_there" : Str)) = false := by decide +kernel
theorem n34 : (("_fallen" : Str) == ("_left" : Str)) = false := by decide +kernel
theorem m12 : ¬ (("_sure" : Str) = ("_there" : Str)) := by decide +kernel
theorem m13 : ¬ (("_sure" : Str) = ("_left" : Str)) := by decide +kernel
theorem m14 : ¬ (("_sure" : Str) = ("_fallen" : Str)) := by decide +kernel
theorem m23 : ¬ (("_there" : Str) = ("_left" : Str)) := by decide +kernel
theorem m24 : ¬ (("_there" : Str) = ("_fallen" : Str)) := by decide +kernel
theorem m34 : ¬ (("_left" : Str) = ("_fallen" : Str)) := by decide +kernel
section
variable (a b c e v : D)
@[simp] theorem dl1 : (diskF a b c e).lookup ("_sure" : Str) = some a := by simp [diskF, List.lookup]
@[simp] theorem dl2 : (diskF a b c e).lookup ("_there" : Str) = some b := by simp [diskF, List.lookup, n12]
@[simp] theorem dl3 : (diskF a b c e).lookup ("_left" : Str) = some c := by simp [diskF, List.lookup, n13, n23]
@[simp] theorem dl4 : (diskF a b c e).lookup ("_fallen" : Str) = some e := by simp [diskF, List.lookup, n14, n24, n34]
@[simp] theorem dp1 : putFD "_sure" v (diskF a b c e) = diskF v b c e := by simp [diskF, putFD]
@[simp] theorem dp2 : putFD "_there" v (diskF a b c e) = diskF a v c e := by simp [diskF, putFD, m12]
@[simp] theorem dp3 : putFD "_left" v (diskF a b c e) = diskF a b v e := by simp [diskF, putFD, m13, m23]
@[simp] theorem dp4 : putFD "_fallen" v (diskF a b c e) = diskF a b c v := by simp [diskF, putFD, m14, m24, m34]
@[simp] theorem dlen : (diskF a b c e).length = 4 := rfl
theorem dnone {x : Str} (h1 : (x == ("_sure" : Str)) = false) (h2 : (x == ("_there" : Str)) = false) (h3 : (x == ("_left" : Str)) = false) (h4 : (x == ("_fallen" : Str)) = false) : (diskF a b c e).lookup x = none := by simp [diskF, List.lookup, h1, h2, h3, h4]
theorem r12 : ¬ (("sure" : Str) = ("there" : Str)) := by decide +kernel
theorem r13 : ¬ (("sure" : Str) = ("left" : Str)) := by decide +kernel
theorem r14 : ¬ (("sure" : Str) = ("fallen" : Str)) := by decide +kernel
theorem r23 : ¬ (("there" : Str) = ("left" : Str)) := by decide +kernel
theorem r24 : ¬ (("there" : Str) = ("fallen" : Str)) := by decide +kernel
theorem r34 : ¬ (("left" : Str) = ("fallen" : Str)) := by decide +kernel
theorem inr_iff {a b : Str} : ((Sum.inr a : Key) = Sum.inr b) ↔ a = b := ⟨fun h => Sum.inr.inj h, fun h => by rw [h]⟩
@[simp] theorem ml1 : valD (modK a b c e) (.inr "sure") = some a := by simp [modK, valD]
@[simp] theorem ml2 : valD (modK a b c e) (.inr "there") = some b := by simp [modK, valD, r12]
@[simp] theorem ml3 : valD (modK a b c e) (.inr "left") = some c := by simp [modK, valD, r13, r23]
@[simp] theorem ml4 : valD (modK a b c e) (.inr "fallen") = some e := by simp [modK, valD, r14, r24, r34]
theorem rx {x y : Str} (h : ¬ x = y) : ¬ y = x := fun z => h z.symm
@[simp] theorem mp1 : putD (modK a b c e) (.inr "sure") v = modK v b c e := by simp [modK, putD, rx r12, rx r13, rx r14]
@[simp] theorem mp2 : putD (modK a b c e) (.inr "there") v = modK a v c e := by simp [modK, putD, r12, rx r23, rx r24]
@[simp] theorem mp3 : putD (modK a b c e) (.inr "left") v = modK a b v e := by simp [modK, putD, r13, r23, rx r34]
@[simp] theorem mp4 : putD (modK a b c e) (.inr "fallen") v = modK a b c v := by simp [modK, putD, r14, r24, r34]
@[simp] theorem mlen : (modK a b c e).length = 4 := rfl
end
end PMl

set_option Elab.async false
set_option linter.all false
set_option maxRecDepth 100000
set_option maxHeartbeats 1000000
/-! the plain law of k25, 2: the disk's methods, the model's deeds. -/
namespace PMl
open PySem PM L2
abbrev dObj (s t : Nat) (l : Int) (f : Bool) : O := .ins 0 (diskF (.loc s) (.loc t) (.int l) (.bl f))
abbrev mObj (s t : Nat) (l : Int) (f : Bool) : O := .dct (modK (.loc s) (.loc t) (.int l) (.bl f))
structure DiskAt (st : Sto) (d s t : Nat) (S T : KV) (l : Int) (f : Bool) : Prop where
  o : st[d]? = some (dObj s t l f)
  hs : st[s]? = some (.dct (kvD S))
  ht : st[t]? = some (.dct (kvD T))
  n : d ≠ s ∧ d ≠ t ∧ s ≠ t
structure ModelAt (st : Sto) (d s t : Nat) (S T : KV) (l : Int) (f : Bool) : Prop where
  o : st[d]? = some (mObj s t l f)
  hs : st[s]? = some (.dct (kvD S))
  ht : st[t]? = some (.dct (kvD T))
  n : d ≠ s ∧ d ≠ t ∧ s ≠ t
/-- the others stay -/
structure Keep (L : List Nat) (st st' : Sto) : Prop where
  le : st.length ≤ st'.length
  eq : ∀ n o, st[n]? = some o → n ∉ L → st'[n]? = some o
theorem Keep.refl {L : List Nat} {st : Sto} : Keep L st st := ⟨Nat.le_refl _, fun _ _ h _ => h⟩
def fallL (l : Int) : Int := if 0 < l then l - 1 else l
def fallF (l : Int) : Bool := decide (0 < l ∧ l - 1 = 0)

variable {st : Sto} {d s t : Nat} {S T : KV} {l : Int} {f : Bool}
theorem fld1 {d : Nat} {st : Sto} {a b c e : D} (h : st[d]? = some (.ins 0 (diskF a b c e))) : fldOf [0] "_sure" (.loc d) st = .ok a st := by simp [fldOf, h]
theorem fld2 {d : Nat} {st : Sto} {a b c e : D} (h : st[d]? = some (.ins 0 (diskF a b c e))) : fldOf [0] "_there" (.loc d) st = .ok b st := by simp [fldOf, h]
theorem fld3 {d : Nat} {st : Sto} {a b c e : D} (h : st[d]? = some (.ins 0 (diskF a b c e))) : fldOf [0] "_left" (.loc d) st = .ok c st := by simp [fldOf, h]
theorem fld4 {d : Nat} {st : Sto} {a b c e : D} (h : st[d]? = some (.ins 0 (diskF a b c e))) : fldOf [0] "_fallen" (.loc d) st = .ok e st := by simp [fldOf, h]
theorem falls_fallen (h : DiskAt st d s t S T l true) : m_Disk__falls [.loc d] st = .exc 2 [] st := by
  show gcR st (outR (b_Disk__falls [some (.loc d)] st)) = _
  unfold b_Disk__falls
  simp [fld4 h.o, truD, outR, gcR_exc]
theorem falls_ok (h : DiskAt st d s t S T l false) : m_Disk__falls [.loc d] st = .ok (.bl (fallF l)) (st.set d (dObj s t (fallL l) (fallF l))) := by
  show gcR st (outR (b_Disk__falls [some (.loc d)] st)) = _
  have hd := lt_get h.o
  have q : ∀ o : O, (st.set d o)[d]? = some o := fun o => List.getElem?_set_self hd
  have e : b_Disk__falls [some (.loc d)] st = .rt (.bl (fallF l)) (st.set d (dObj s t (fallL l) (fallF l))) := by
    unfold b_Disk__falls
    by_cases hl : 0 < l
    · by_cases h1 : l - 1 = 0
      · simp [fld4 h.o, fld3 h.o, truD, gtD, hl, h.o, isubD, q, fld3 (q _), fld4 (q _), fallL, fallF, h1]
      · simp [fld4 h.o, fld3 h.o, truD, gtD, hl, h.o, isubD, q, fld3 (q _), fld4 (q _), fallL, fallF, h1]
    · have e1 : fallL l = l := by simp [fallL, hl]
      have e2 : fallF l = false := by simp [fallF, hl]
      rw [e1, e2, set_self h.o]
      simp [fld4 h.o, fld3 h.o, truD, gtD, hl]
  rw [e]
  exact gcR_same List.length_set
theorem notIn_dct {d : Nat} {st : Sto} {T : KV} {n : Int} (h : st[d]? = some (.dct (kvD T))) : notInD (.int n) (.loc d) st = .ok (.bl (!(getR T n).isSome)) st := by
  simp [notInD, inO, h, keyD, val_kvD]
theorem in_dct {d : Nat} {st : Sto} {T : KV} {n : Int} (h : st[d]? = some (.dct (kvD T))) : inD (.int n) (.loc d) st = .ok (.bl (getR T n).isSome) st := by
  simp [inD, inO, h, keyD, val_kvD]
theorem get_dct {d : Nat} {st : Sto} {T : KV} {n : Int} {r : List Int} (h : st[d]? = some (.dct (kvD T))) (e : getR T n = some r) : getD (.loc d) (.int n) st = .ok (rowD r) st := by
  rw [getD_dct h]
  simp [atK, keyD, val_kvD, e]
theorem read_ok {d s t : Nat} {st : Sto} {S T : KV} {l : Int} {f : Bool} (h : DiskAt st d s t S T l f) (n : Int) : m_Disk_read [.loc d, .int n] st = .ok (rowD ((getR T n).getD [])) st := by
  show gcR st (outR (b_Disk_read [some (.loc d), some (.int n)] st)) = _
  unfold b_Disk_read
  cases e : getR T n with
  | none => simp [fld2 h.o, notIn_dct h.ht, e, outR, gcR_id, rowD]
  | some r => simp [fld2 h.o, notIn_dct h.ht, e, outR, gcR_id, get_dct h.ht e]

/-! ### copies -/
def ND (T : KV) : Prop := (T.map (·.1)).Nodup
theorem ND.kv {T : KV} (h : ND T) : ((kvD T).map (·.1)).Nodup := by
  have : (kvD T).map (·.1) = (T.map (·.1)).map (Sum.inl : Int → Key) := by
    unfold kvD; rw [List.map_map, List.map_map]; rfl
  rw [this]
  exact List.Pairwise.map _ (fun a b hne z => hne (Sum.inl.inj z)) h
theorem getR_mem {T : KV} (h : ND T) {p : Int × List Int} (hp : p ∈ T) : getR T p.1 = some p.2 := by
  unfold getR
  induction T with
  | nil => cases hp
  | cons q r ih =>
    have h' := List.nodup_cons.mp h
    rw [List.find?_cons]
    rcases List.mem_cons.mp hp with e | e
    · subst e; simp
    · have : ¬ q.1 = p.1 := fun z => h'.1 (by show q.1 ∈ _; rw [z]; exact List.mem_map_of_mem e)
      simp only [this, decide_false]
      exact ih h'.2 e
theorem keys_kv (T : KV) : ((kvD T).map fun kv => kD kv.1) = T.map fun p => D.int p.1 := by
  unfold kvD; rw [List.map_map]; rfl
theorem copy_ok {p : E} {ρ : PM.Env} {i : Nat} {st : Sto} {t : Nat} {T : KV} (hz : T.length ≤ 1000) (hT : st[t]? = some (.dct (kvD T))) (nd : ND T) (hi : i < ρ.length) (h0 : p ρ st = .ok (.loc t) st)
    (h1 : p ρ (st.set t (.fdc (kvD T))) = .ok (.loc t) (st.set t (.fdc (kvD T)))) (h2 : ∀ k : Int, p (ρ.set i (some (.int k))) (st.set t (.fdc (kvD T))) = .ok (.loc t) (st.set t (.fdc (kvD T)))) :
    lockD p (cDComp (cKeysI p) (.one i) tYesD (cVar i) (cOp2 getD p (cVar i)) [i]) ρ st = .ok (kvD T) st := by
  have ht := lt_get hT
  have q : (st.set t (.fdc (kvD T)))[t]? = some (.fdc (kvD T)) := List.getElem?_set_self ht
  have hz2 : (T.map fun p => D.int p.1).length ≤ sizeLine := by
    rw [List.length_map]
    exact Nat.le_trans hz (by decide)
  have e1 : compGo (fun s => ∃ l, s[t]? = some (.fdc l) ∧ l.map (·.1) = (kvD T).map (·.1)) (.one i) tYesD (pairD (cVar i) (cOp2 getD p (cVar i))) (wipeD ρ [i]) (T.map fun p => D.int p.1) (st.set t (.fdc (kvD T))) = .ok (kvD T) (st.set t (.fdc (kvD T))) := by
    rw [compGo_pure (fun _ => true) (fun x => match x with | .int k => (.inl k, rowD ((getR T k).getD [])) | _ => (.inl 0, .non)) ⟨_, q, rfl⟩ _ fun x hx => ?_]
    · rw [List.filter_eq_self.mpr fun _ _ => rfl, List.map_map]
      unfold kvD
      congr 1
      apply List.map_congr_left
      intro p hp
      show (Sum.inl p.1, rowD ((getR T p.1).getD [])) = _
      rw [getR_mem nd hp]
      rfl
    · obtain ⟨p', hp, e⟩ := List.mem_map.mp hx
      subst e
      refine ⟨_, rfl, rfl, fun _ => ?_⟩
      have e2 : (ρ.set i (some (D.int p'.1)))[i]? = some (some (D.int p'.1)) := List.getElem?_set_self hi
      have e4 : keyD (.int p'.1) = some (.inl p'.1) := rfl
      have e3 : getD (.loc t) (.int p'.1) (st.set t (.fdc (kvD T))) = .ok (rowD p'.2) (st.set t (.fdc (kvD T))) := by
        rw [getD_fdc q]
        simp [atK, keyD, val_kvD, getR_mem nd hp]
      show pairD (cVar i) (cOp2 getD p (cVar i)) ((ρ.set i none).set i (some (D.int p'.1))) _ = _
      simp [e2, h2, e3, e4, getR_mem nd hp]
  have e0 : lockAt p ρ st = some (t, kvD T) := by simp [h0, hT]
  rw [lockD_ap, e0]
  dsimp only
  have e2 : cDComp (cKeysI p) (.one i) tYesD (cVar i) (cOp2 getD p (cVar i)) [i] ρ (st.set t (.fdc (kvD T))) = .ok (kvD T) (st.set t (.fdc (kvD T))) := by
    simp only [cDComp_ap, cKeysI_ap, h1, R.bind_ok, keysD, q, keys_kv, if_pos hz2, e1, merge_nodup nd.kv]
  rw [e2]
  simp only [lockGo, q, List.set_set, set_self hT]

/-! ### the disk's deeds -/
def appR (T : KV) (n : Int) (r : List Int) : KV := putR T n ((getR T n).getD [] ++ r)
/-- what a deed leaves -/
structure Did (st st' : Sto) (d s t : Nat) (s' t' : Nat) : Prop where
  keep : Keep [d, s, t] st st'
  os : s' = s ∨ s' = t ∨ st.length ≤ s'
  ot : t' = s ∨ t' = t ∨ st.length ≤ t'
theorem fall_at {d s t : Nat} {st : Sto} {S T : KV} {l l' : Int} {f f' : Bool} (h : DiskAt st d s t S T l f) : DiskAt (st.set d (dObj s t l' f')) d s t S T l' f' :=
  ⟨List.getElem?_set_self (lt_get h.o), by rw [get_set_ne (Ne.symm h.n.1)]; exact h.hs, by rw [get_set_ne (Ne.symm h.n.2.1)]; exact h.ht, h.n⟩
theorem keep_set {L : List Nat} {st : Sto} {n : Nat} {o : O} (h : n ∈ L) : Keep L st (st.set n o) := ⟨by rw [List.length_set]; exact Nat.le_refl _, fun m o e hm => by rw [get_set_ne (fun z => hm (by rw [z]; exact h))]; exact e⟩
theorem keep_app {L : List Nat} {st g : Sto} : Keep L st (st ++ g) := ⟨by simp, fun m o e hm => get_app e⟩
theorem Keep.trans {L : List Nat} {a b c : Sto} (h : Keep L a b) (h' : Keep L b c) : Keep L a c := ⟨Nat.le_trans h.le h'.le, fun n o e hn => h'.eq n o (h.eq n o e hn) hn⟩
theorem nrd : (("read" : Str) == ("_sure" : Str)) = false ∧ (("read" : Str) == ("_there" : Str)) = false ∧ (("read" : Str) == ("_left" : Str)) = false ∧ (("read" : Str) == ("_fallen" : Str)) = false := by decide +kernel
theorem nfl : (("_falls" : Str) == ("_sure" : Str)) = false ∧ (("_falls" : Str) == ("_there" : Str)) = false ∧ (("_falls" : Str) == ("_left" : Str)) = false ∧ (("_falls" : Str) == ("_fallen" : Str)) = false := by decide +kernel
@[simp] theorem no_read (a b c e : D) : (diskF a b c e).lookup ("read" : Str) = none := dnone a b c e nrd.1 nrd.2.1 nrd.2.2.1 nrd.2.2.2
@[simp] theorem no_falls (a b c e : D) : (diskF a b c e).lookup ("_falls" : Str) = none := dnone a b c e nfl.1 nfl.2.1 nfl.2.2.1 nfl.2.2.2
theorem append_fallen {d s t : Nat} {st : Sto} {S T : KV} {l : Int} (h : DiskAt st d s t S T l true) (n : Int) (r : List Int) : m_Disk_append [.loc d, .int n, rowD r] st = .exc 2 [] st := by
  show gcR st (outR (b_Disk_append [some (.loc d), some (.int n), some (rowD r), none] st)) = _
  unfold b_Disk_append
  simp [h.o, falls_fallen h, outR, gcR_exc]
theorem append_ok {d s t : Nat} {st : Sto} {S T : KV} {l : Int} (h : DiskAt st d s t S T l false) (n : Int) (r : List Int) (hz : T.length < 1000) (hr : ((getR T n).getD []).length + r.length ≤ 10000) :
    m_Disk_append [.loc d, .int n, rowD r] st = if fallF l = true then .exc 2 [] ((st.set d (dObj s t (fallL l) (fallF l))).set t (.dct (kvD (appR T n r)))) else .ok .non ((st.set d (dObj s t (fallL l) (fallF l))).set t (.dct (kvD (appR T n r)))) := by
  show gcR st (outR (b_Disk_append [some (.loc d), some (.int n), some (rowD r), none] st)) = _
  have h1 := fall_at (l' := fallL l) (f' := fallF l) h
  have e1 : addD (rowD ((getR T n).getD [])) (.tup (r.map .int)) (st.set d (dObj s t (fallL l) (fallF l))) = .ok (rowD ((getR T n).getD [] ++ r)) (st.set d (dObj s t (fallL l) (fallF l))) := by
    have hz2 : ((getR T n).getD []).length + r.length ≤ sizeLine := Nat.le_trans hr (by decide)
    simp [addD, rowD, hz2]
  have e2 : setD (.loc t) (.int n) (rowD ((getR T n).getD [] ++ r)) (st.set d (dObj s t (fallL l) (fallF l))) = some ((st.set d (dObj s t (fallL l) (fallF l))).set t (.dct (kvD (appR T n r)))) := by
    rw [setD_dct h1.ht (k := .inl n) rfl (by unfold kvD; rw [List.length_map]; exact Nat.lt_of_lt_of_le hz (by decide)), put_kvD]
    rfl
  unfold b_Disk_append
  have e3 : seqD (rowD r) = fun st => .ok (r.map .int) st := rfl
  cases hf : fallF l with
  | true =>
    rw [hf] at h1 e1 e2
    simp [h.o, falls_ok h, hf, h1.o, read_ok h1 n, e3, tupS, e1, e2, fld2 h1.o, truD, outR]
    exact gcR_exc (by simp)
  | false =>
    rw [hf] at h1 e1 e2
    simp [h.o, falls_ok h, hf, h1.o, read_ok h1 n, e3, tupS, e1, e2, fld2 h1.o, truD, outR]
    exact gcR_same (by simp)
theorem drop_fallen {d s t : Nat} {st : Sto} {S T : KV} {l : Int} (h : DiskAt st d s t S T l true) (n : Int) : m_Disk_drop [.loc d, .int n] st = .exc 2 [] st := by
  show gcR st (outR (b_Disk_drop [some (.loc d), some (.int n), none] st)) = _
  unfold b_Disk_drop
  simp [h.o, falls_fallen h, outR, gcR_exc]
theorem dropR_none {T : KV} {n : Int} (h : getR T n = none) : dropR T n = T := by
  unfold dropR
  rw [List.filter_eq_self]
  intro p hp
  unfold getR at h
  rw [Option.map_eq_none_iff, List.find?_eq_none] at h
  simpa using h p hp
theorem drop_ok {d s t : Nat} {st : Sto} {S T : KV} {l : Int} (h : DiskAt st d s t S T l false) (n : Int) :
    m_Disk_drop [.loc d, .int n] st = if fallF l = true then .exc 2 [] ((st.set d (dObj s t (fallL l) (fallF l))).set t (.dct (kvD (dropR T n)))) else .ok .non ((st.set d (dObj s t (fallL l) (fallF l))).set t (.dct (kvD (dropR T n)))) := by
  show gcR st (outR (b_Disk_drop [some (.loc d), some (.int n), none] st)) = _
  have h1 := fall_at (l' := fallL l) (f' := fallF l) h
  unfold b_Disk_drop
  cases e : getR T n with
  | none =>
    rw [dropR_none e, set_self (h1.ht)]
    cases hf : fallF l with
    | true =>
      rw [hf] at h1
      simp [h.o, falls_ok h, hf, h1.o, in_dct h1.ht, e, fld2 h1.o, truD, outR]
      exact gcR_exc (by simp)
    | false =>
      rw [hf] at h1
      simp [h.o, falls_ok h, hf, h1.o, in_dct h1.ht, e, fld2 h1.o, truD, outR]
      exact gcR_same (by simp)
  | some r =>
    have e2 : ∀ {s1 : Sto}, s1[t]? = some (.dct (kvD T)) → delD (.loc t) (.int n) s1 = some (s1.set t (.dct (kvD (dropR T n)))) := fun h => by
      simp [delD, h, keyD, val_kvD, e, drop_kvD]
    cases hf : fallF l with
    | true =>
      rw [hf] at h1
      simp [h.o, falls_ok h, hf, h1.o, in_dct h1.ht, e, fld2 h1.o, truD, outR, e2 h1.ht]
      exact gcR_exc (by simp)
    | false =>
      rw [hf] at h1
      simp [h.o, falls_ok h, hf, h1.o, in_dct h1.ht, e, fld2 h1.o, truD, outR, e2 h1.ht]
      exact gcR_same (by simp)
theorem flush_fallen {d s t : Nat} {st : Sto} {S T : KV} {l : Int} (h : DiskAt st d s t S T l true) : m_Disk_flush [.loc d] st = .exc 2 [] st := by
  show gcR st (outR (b_Disk_flush [some (.loc d), none] st)) = _
  unfold b_Disk_flush
  simp [h.o, falls_fallen h, outR, gcR_exc]
theorem flush_ok {d s t : Nat} {st : Sto} {S T : KV} {l : Int} (h : DiskAt st d s t S T l false) (nd : ND T) (hz : T.length < 1000) :
    m_Disk_flush [.loc d] st = if fallF l = true then .exc 2 [] (st.set d (dObj s t (fallL l) (fallF l))) else .ok .non ((st ++ [O.dct (kvD T)]).set d (dObj st.length t (fallL l) (fallF l))) := by
  show gcR st (outR (b_Disk_flush [some (.loc d), none] st)) = _
  have h1 := fall_at (l' := fallL l) (f' := fallF l) h
  unfold b_Disk_flush
  cases hf : fallF l with
  | true =>
    rw [hf] at h1
    simp [h.o, falls_ok h, hf, truD, outR]
    exact gcR_exc (by simp)
  | false =>
    rw [hf] at h1
    have hd := lt_get h.o
    have q : ∀ o : O, ((st.set d (dObj s t (fallL l) false)).set t o)[d]? = some (dObj s t (fallL l) false) := fun o => by rw [get_set_ne h.n.2.1]; exact h1.o
    have c := copy_ok (p := cB1 (fldOf [0] "_there") (cVar 0)) (ρ := [some (.loc d), none]) (i := 1) (Nat.le_of_lt hz) h1.ht nd (by simp) (by simp [fld2 h1.o]) (by simp [fld2 (q _)]) (fun k => by simp [fld2 (q _)])
    have g : ((st ++ [O.dct (kvD T)]).set d (dObj s t (fallL l) false)) = st.set d (dObj s t (fallL l) false) ++ [O.dct (kvD T)] := by rw [List.set_append_left _ _ hd]
    have q2 : (st.set d (dObj s t (fallL l) false) ++ [O.dct (kvD T)])[d]? = some (dObj s t (fallL l) false) := get_app h1.o
    have fin : (st.set d (dObj s t (fallL l) false) ++ [O.dct (kvD T)]).set d (dObj st.length t (fallL l) false) = (st ++ [O.dct (kvD T)]).set d (dObj st.length t (fallL l) false) := by
      rw [← g, List.set_set]
    simp [-lockD_ap, h.o, falls_ok h, hf, truD, c, h1.o, q2, fin, outR]
    refine gcR_new hd ?_
    rw [List.getElem?_set_self (by simp; omega), h.o]
    intro z
    have z := Option.some.inj z
    simp [diskF] at z
    have := lt_get h.hs
    omega
end PMl

set_option Elab.async false
set_option linter.all false
set_option maxRecDepth 100000
set_option maxHeartbeats 1000000
/-! the plain law of k25, 3: deeds told, the model's deeds. -/
namespace PMl
open PySem PM L2
/-- a disk after a deed -/
theorem ne_str {a b : Str} (h : ¬ a = b) : decide (a = b) = false := decide_eq_false h
theorem a1 : ¬ (("drop" : Str) = ("append" : Str)) := by decide +kernel
theorem a2 : ¬ (("flush" : Str) = ("append" : Str)) := by decide +kernel
theorem a3 : ¬ (("flush" : Str) = ("drop" : Str)) := by decide +kernel
theorem a4 : ¬ (("append" : Str) = ("drop" : Str)) := by decide +kernel
theorem a5 : ¬ (("append" : Str) = ("flush" : Str)) := by decide +kernel
theorem a6 : ¬ (("drop" : Str) = ("flush" : Str)) := by decide +kernel
theorem nap : (("append" : Str) == ("_sure" : Str)) = false ∧ (("append" : Str) == ("_there" : Str)) = false ∧ (("append" : Str) == ("_left" : Str)) = false ∧ (("append" : Str) == ("_fallen" : Str)) = false := by decide +kernel
theorem ndr : (("drop" : Str) == ("_sure" : Str)) = false ∧ (("drop" : Str) == ("_there" : Str)) = false ∧ (("drop" : Str) == ("_left" : Str)) = false ∧ (("drop" : Str) == ("_fallen" : Str)) = false := by decide +kernel
theorem nfs : (("flush" : Str) == ("_sure" : Str)) = false ∧ (("flush" : Str) == ("_there" : Str)) = false ∧ (("flush" : Str) == ("_left" : Str)) = false ∧ (("flush" : Str) == ("_fallen" : Str)) = false := by decide +kernel
@[simp] theorem no_append (a b c e : D) : (diskF a b c e).lookup ("append" : Str) = none := dnone a b c e nap.1 nap.2.1 nap.2.2.1 nap.2.2.2
@[simp] theorem no_drop (a b c e : D) : (diskF a b c e).lookup ("drop" : Str) = none := dnone a b c e ndr.1 ndr.2.1 ndr.2.2.1 ndr.2.2.2
@[simp] theorem no_flush (a b c e : D) : (diskF a b c e).lookup ("flush" : Str) = none := dnone a b c e nfs.1 nfs.2.1 nfs.2.2.1 nfs.2.2.2
section
variable {d s t : Nat} {st : Sto} {S T : KV} {l : Int} {f : Bool}
/-- what stands after append -/
theorem after_app {T' : KV} {l' : Int} {f' : Bool} (h : DiskAt st d s t S T l f) : DiskAt ((st.set d (dObj s t l' f')).set t (.dct (kvD T'))) d s t S T' l' f' ∧ Keep [d, s, t] st ((st.set d (dObj s t l' f')).set t (.dct (kvD T'))) ∧ ((st.set d (dObj s t l' f')).set t (.dct (kvD T'))).length = st.length := by
  have h1 := fall_at (l' := l') (f' := f') h
  refine ⟨⟨?_, ?_, ?_, h.n⟩, (keep_set (by simp)).trans (keep_set (by simp)), by simp⟩
  · rw [get_set_ne h.n.2.1]; exact h1.o
  · rw [get_set_ne h.n.2.2]; exact h1.hs
  · exact get_set_eq h1.ht
theorem told_app (h : DiskAt st d s t S T l f) (n : Int) (r : List Int) (hz : T.length < 1000) (hr : ((getR T n).getD []).length + r.length ≤ 10000) :
    ∃ st', m__law_told_deed [.loc d, .str "append", .int n, rowD r] st = .ok (.bl (!f && !fallF l)) st' ∧ DiskAt st' d s t S (if f then T else appR T n r) (if f then l else fallL l) (if f then true else fallF l) ∧ Keep [d, s, t] st st' := by
  have key : ∀ {b : Bool} {st' : Sto}, b__law_told_deed [some (.loc d), some (.str "append"), some (.int n), some (rowD r), none] st = .rt (.bl b) st' → st'.length = st.length → m__law_told_deed [.loc d, .str "append", .int n, rowD r] st = .ok (.bl b) st' := fun e hl => by
    show gcR st (outR (b__law_told_deed [some (.loc d), some (.str "append"), some (.int n), some (rowD r), none] st)) = _
    rw [e]; exact gcR_same hl
  cases f with
  | true =>
    refine ⟨st, key ?_ rfl, h, Keep.refl⟩
    unfold b__law_told_deed
    simp [h.o, append_fallen h, mt_Fallen, fNx]
  | false =>
    obtain ⟨h1, k1, hl⟩ := after_app (T' := appR T n r) (l' := fallL l) (f' := fallF l) h
    refine ⟨_, key ?_ hl, h1, k1⟩
    unfold b__law_told_deed
    cases hf : fallF l with
    | true => simp [h.o, append_ok h n r hz hr, hf, mt_Fallen, fNx]
    | false => simp [h.o, append_ok h n r hz hr, hf, mt_Fallen, fNx, isND]
theorem told_drop (h : DiskAt st d s t S T l f) (n : Int) :
    ∃ st', m__law_told_deed [.loc d, .str "drop", .int n, .tup []] st = .ok (.bl (!f && !fallF l)) st' ∧ DiskAt st' d s t S (if f then T else dropR T n) (if f then l else fallL l) (if f then true else fallF l) ∧ Keep [d, s, t] st st' := by
  have key : ∀ {b : Bool} {st' : Sto}, b__law_told_deed [some (.loc d), some (.str "drop"), some (.int n), some (.tup []), none] st = .rt (.bl b) st' → st'.length = st.length → m__law_told_deed [.loc d, .str "drop", .int n, .tup []] st = .ok (.bl b) st' := fun e hl => by
    show gcR st (outR (b__law_told_deed [some (.loc d), some (.str "drop"), some (.int n), some (.tup []), none] st)) = _
    rw [e]; exact gcR_same hl
  cases f with
  | true =>
    refine ⟨st, key ?_ rfl, h, Keep.refl⟩
    unfold b__law_told_deed
    simp [h.o, drop_fallen h, mt_Fallen, fNx, a1]
  | false =>
    obtain ⟨h1, k1, hl⟩ := after_app (T' := dropR T n) (l' := fallL l) (f' := fallF l) h
    refine ⟨_, key ?_ hl, h1, k1⟩
    unfold b__law_told_deed
    cases hf : fallF l with
    | true => simp [h.o, drop_ok h n, hf, mt_Fallen, fNx, a1]
    | false => simp [h.o, drop_ok h n, hf, mt_Fallen, fNx, isND, a1]
theorem told_flush (h : DiskAt st d s t S T l f) (nd : ND T) (hz : T.length < 1000) :
    ∃ st' s', m__law_told_deed [.loc d, .str "flush", .int 0, .tup []] st = .ok (.bl (!f && !fallF l)) st' ∧ DiskAt st' d s' t (if f || fallF l then S else T) T (if f then l else fallL l) (if f then true else fallF l) ∧ Keep [d, s, t] st st' ∧ (s' = s ∨ st.length ≤ s') := by
  have key : ∀ {b : Bool} {st' : Sto}, b__law_told_deed [some (.loc d), some (.str "flush"), some (.int 0), some (.tup []), none] st = .rt (.bl b) st' → (st'.length = st.length ∨ st'[d]? ≠ st[d]?) → m__law_told_deed [.loc d, .str "flush", .int 0, .tup []] st = .ok (.bl b) st' := fun e hl => by
    show gcR st (outR (b__law_told_deed [some (.loc d), some (.str "flush"), some (.int 0), some (.tup []), none] st)) = _
    rw [e]
    rcases hl with hl | hl
    · exact gcR_same hl
    · exact gcR_new (lt_get h.o) hl
  cases f with
  | true =>
    refine ⟨st, s, key ?_ (.inl rfl), h, Keep.refl, .inl rfl⟩
    unfold b__law_told_deed
    simp [h.o, flush_fallen h, mt_Fallen, fNx, a2, a3]
  | false =>
    have h1 := fall_at (l' := fallL l) (f' := fallF l) h
    cases hf : fallF l with
    | true =>
      rw [hf] at h1
      refine ⟨st.set d (dObj s t (fallL l) true), s, key ?_ (.inl (by simp)), h1, keep_set (by simp), .inl rfl⟩
      unfold b__law_told_deed
      simp [h.o, flush_ok h nd hz, hf, mt_Fallen, fNx, a2, a3]
    | false =>
      have hd := lt_get h.o
      refine ⟨(st ++ [O.dct (kvD T)]).set d (dObj st.length t (fallL l) false), st.length, key ?_ (.inr ?_), ⟨?_, ?_, ?_, ?_⟩, keep_app.trans (keep_set (by simp)), .inr (Nat.le_refl _)⟩
      · unfold b__law_told_deed
        simp [h.o, flush_ok h nd hz, hf, mt_Fallen, fNx, a2, a3, isND]
      · rw [List.getElem?_set_self (by simp; omega), h.o]
        intro z
        have z := Option.some.inj z
        simp [diskF] at z
        have := lt_get h.hs
        omega
      · exact List.getElem?_set_self (by simp; omega)
      · rw [get_set_ne (by omega)]; exact get_new
      · rw [get_set_ne (Ne.symm h.n.2.1)]; exact get_app h.ht
      · have := lt_get h.ht
        exact ⟨by omega, h.n.2.1, by omega⟩
end
end PMl

set_option Elab.async false
set_option linter.all false
set_option maxRecDepth 100000
set_option maxHeartbeats 1000000
/-! the plain law of k25, 4: the model's deeds. -/
namespace PMl
open PySem PM L2
section
variable {d s t : Nat} {st : Sto} {S T : KV} {l : Int} {f : Bool} {a b c e v : D}
theorem mg1 (h : st[d]? = some (.dct (modK a b c e))) : getD (.loc d) (.str "sure") st = .ok a st := by rw [getD_dct h]; simp [atK, keyD]
theorem mg2 (h : st[d]? = some (.dct (modK a b c e))) : getD (.loc d) (.str "there") st = .ok b st := by rw [getD_dct h]; simp [atK, keyD]
theorem mg3 (h : st[d]? = some (.dct (modK a b c e))) : getD (.loc d) (.str "left") st = .ok c st := by rw [getD_dct h]; simp [atK, keyD]
theorem mg4 (h : st[d]? = some (.dct (modK a b c e))) : getD (.loc d) (.str "fallen") st = .ok e st := by rw [getD_dct h]; simp [atK, keyD]
theorem ms1 (h : st[d]? = some (.dct (modK a b c e))) : setD (.loc d) (.str "sure") v st = some (st.set d (.dct (modK v b c e))) := by rw [setD_dct h (k := .inr "sure") rfl (show 4 < sizeLine by decide)]; simp
theorem ms2 (h : st[d]? = some (.dct (modK a b c e))) : setD (.loc d) (.str "there") v st = some (st.set d (.dct (modK a v c e))) := by rw [setD_dct h (k := .inr "there") rfl (show 4 < sizeLine by decide)]; simp
theorem ms3 (h : st[d]? = some (.dct (modK a b c e))) : setD (.loc d) (.str "left") v st = some (st.set d (.dct (modK a b v e))) := by rw [setD_dct h (k := .inr "left") rfl (show 4 < sizeLine by decide)]; simp
theorem ms4 (h : st[d]? = some (.dct (modK a b c e))) : setD (.loc d) (.str "fallen") v st = some (st.set d (.dct (modK a b c v))) := by rw [setD_dct h (k := .inr "fallen") rfl (show 4 < sizeLine by decide)]; simp
theorem fall_atM {l' : Int} {f' : Bool} (h : ModelAt st d s t S T l f) : ModelAt (st.set d (mObj s t l' f')) d s t S T l' f' :=
  ⟨List.getElem?_set_self (lt_get h.o), by rw [get_set_ne (Ne.symm h.n.1)]; exact h.hs, by rw [get_set_ne (Ne.symm h.n.2.1)]; exact h.ht, h.n⟩
theorem pre_ok {ρ : PM.Env} {rest : PM.S} (h : ModelAt st d s t S T l false) (hρ : ρ[0]? = some (some (.loc d))) :
    sSeq (sIf (cTst (cOp2 gtD (cOp2 getD (cVar 0) (cC (.str "left"))) (cC (.int 0)))) (sSeq (sSub (cVar 0) (cC (.str "left")) (cOp2 subD (cOp2 getD (cVar 0) (cC (.str "left"))) (cC (.int 1)))) (sSub (cVar 0) (cC (.str "fallen")) (cOp2 eqD (cOp2 getD (cVar 0) (cC (.str "left"))) (cC (.int 0))))) sNext) rest ρ st = rest ρ (st.set d (mObj s t (fallL l) (fallF l))) := by
  have q : ∀ o : O, (st.set d o)[d]? = some o := fun o => List.getElem?_set_self (lt_get h.o)
  by_cases hl : 0 < l
  · simp [hρ, mg3 h.o, gtD, hl, subD, ms3 h.o, mg3 (q _), ms4 (q _), fallL, fallF]
  · have e1 : fallL l = l := by simp [fallL, hl]
    have e2 : fallF l = false := by simp [fallF, hl]
    rw [e1, e2, set_self h.o]
    simp [hρ, mg3 h.o, gtD, hl]
theorem mdl_fallen (h : ModelAt st d s t S T l true) (x : Str) (n : Int) (r : List Int) : m__law_deed [.loc d, .str x, .int n, rowD r] st = .ok (.bl false) st := by
  show gcR st (outR (b__law_deed [some (.loc d), some (.str x), some (.int n), some (rowD r), none, none] st)) = _
  unfold b__law_deed
  simp [mg4 h.o, truD, outR, gcR_id]
theorem get2_ok {T : KV} (n : Int) : (valD (kvD T) (.inl n)).getD (.tup []) = rowD ((getR T n).getD []) := by
  rw [val_kvD]
  cases getR T n <;> rfl
/-- the model behind a deed that makes a new dict -/
theorem gc_mdl {st' : Sto} {r : D} {s' t' : Nat} {l' : Int} {f' : Bool} (h : ModelAt st d s t S T l f) (h' : st'[d]? = some (mObj s' t' l' f')) (hn : s' ≠ s ∨ t' ≠ t) : gcR st (.ok r st') = .ok r st' := by
  refine gcR_new (lt_get h.o) ?_
  rw [h', h.o]
  intro z
  have z := Option.some.inj z
  simp [modK] at z
  omega
theorem mdl_app (h : ModelAt st d s t S T l false) (n : Int) (r : List Int) (hz : T.length < 1000) (hr : ((getR T n).getD []).length + r.length ≤ 10000) :
    ∃ st', m__law_deed [.loc d, .str "append", .int n, rowD r] st = .ok (.bl (!fallF l)) st' ∧ ModelAt st' d s st.length S (appR T n r) (fallL l) (fallF l) ∧ Keep [d, s, t] st st' := by
  have h1 := fall_atM (l' := fallL l) (f' := fallF l) h
  have hd := lt_get h.o
  have ht := lt_get h.ht
  have hs := lt_get h.hs
  generalize e1 : st.set d (mObj s t (fallL l) (fallF l)) = st1 at h1
  have l1 : st1.length = st.length := by rw [← e1]; simp
  have k1 : Keep [d, s, t] st st1 := by rw [← e1]; exact keep_set (by simp)
  have q1 : (st1 ++ [O.dct (kvD T)])[st.length]? = some (.dct (kvD T)) := by rw [← l1]; exact get_new
  have e2 : addD (rowD ((getR T n).getD [])) (rowD r) (st1 ++ [O.dct (kvD T)]) = .ok (rowD ((getR T n).getD [] ++ r)) (st1 ++ [O.dct (kvD T)]) := by
    have hz2 : ((getR T n).getD []).length + r.length ≤ sizeLine := Nat.le_trans hr (by decide)
    simp [addD, rowD, hz2]
  have e3 : setD (.loc st.length) (.int n) (rowD ((getR T n).getD [] ++ r)) (st1 ++ [O.dct (kvD T)]) = some (st1 ++ [O.dct (kvD (appR T n r))]) := by
    rw [setD_dct q1 (k := .inl n) rfl (by unfold kvD; rw [List.length_map]; exact Nat.lt_of_lt_of_le hz (by decide)), put_kvD, ← l1, List.set_append_right _ _ (Nat.le_refl _)]
    simp [appR]
  have q2 : (st1 ++ [O.dct (kvD (appR T n r))])[d]? = some (mObj s t (fallL l) (fallF l)) := get_app h1.o
  have hA : ModelAt ((st1 ++ [O.dct (kvD (appR T n r))]).set d (mObj s st.length (fallL l) (fallF l))) d s st.length S (appR T n r) (fallL l) (fallF l) := by
    refine ⟨List.getElem?_set_self (by simp; omega), ?_, ?_, ⟨h.n.1, by omega, by omega⟩⟩
    · rw [get_set_ne (Ne.symm h.n.1)]; exact get_app h1.hs
    · rw [get_set_ne (by omega), ← l1]; exact get_new
  refine ⟨_, ?_, hA, (k1.trans keep_app).trans (keep_set (by simp))⟩
  have e : b__law_deed [some (.loc d), some (.str "append"), some (.int n), some (rowD r), none, none] st = .rt (.bl (!fallF l)) ((st1 ++ [O.dct (kvD (appR T n r))]).set d (mObj s st.length (fallL l) (fallF l))) := by
    unfold b__law_deed
    rw [sSeq_ap]
    have p0 : sIf (cTru (cOp2 getD (cVar 0) (cC (.str "fallen")))) (sRet (cC (.bl false))) sNext [some (.loc d), some (.str "append"), some (.int n), some (rowD r), none, none] st = .nx [some (.loc d), some (.str "append"), some (.int n), some (rowD r), none, none] st := by
      simp [mg4 h.o, truD]
    rw [p0]
    dsimp only
    rw [pre_ok h rfl, e1]
    have d1 : dctD (.loc t) st1 = .ok (kvD T) st1 := by simp [dctD, h1.ht]
    have d2 : dctD (.loc st.length) (st1 ++ [O.dct (kvD T)]) = .ok (kvD T) (st1 ++ [O.dct (kvD T)]) := by simp [dctD, q1]
    have g2 := get2_ok (T := T) n
    simp [mg2 h1.o, d1, d2, l1, keyD, g2, e2, e3, ms2 q2, a5, a4, mg4 hA.o]
  show gcR st (outR _) = _
  rw [show ([D.loc d, .str "append", .int n, rowD r].map some ++ List.replicate (6 - [D.loc d, .str "append", .int n, rowD r].length) none) = [some (D.loc d), some (.str "append"), some (.int n), some (rowD r), none, none] from rfl, e]
  exact gc_mdl h hA.o (.inr (by omega))
theorem mdl_flush (h : ModelAt st d s t S T l false) : ∃ st' s', m__law_deed [.loc d, .str "flush", .int 0, .tup []] st = .ok (.bl (!fallF l)) st' ∧ ModelAt st' d s' t (if fallF l then S else T) T (fallL l) (fallF l) ∧ Keep [d, s, t] st st' ∧ (s' = s ∨ st.length ≤ s') := by
  have h1 := fall_atM (l' := fallL l) (f' := fallF l) h
  have hd := lt_get h.o
  have ht := lt_get h.ht
  have hs := lt_get h.hs
  generalize e1 : st.set d (mObj s t (fallL l) (fallF l)) = st1 at h1
  have l1 : st1.length = st.length := by rw [← e1]; simp
  have k1 : Keep [d, s, t] st st1 := by rw [← e1]; exact keep_set (by simp)
  have p0 : sIf (cTru (cOp2 getD (cVar 0) (cC (.str "fallen")))) (sRet (cC (.bl false))) sNext [some (.loc d), some (.str "flush"), some (.int 0), some (.tup []), none, none] st = .nx [some (.loc d), some (.str "flush"), some (.int 0), some (.tup []), none, none] st := by
    simp [mg4 h.o, truD]
  have d1 : dctD (.loc t) st1 = .ok (kvD T) st1 := by simp [dctD, h1.ht]
  have fin : ∀ {b : Bool} {st' : Sto}, b__law_deed [some (.loc d), some (.str "flush"), some (.int 0), some (.tup []), none, none] st = .rt (.bl b) st' → gcR st (.ok (.bl b) st') = .ok (.bl b) st' → m__law_deed [.loc d, .str "flush", .int 0, .tup []] st = .ok (.bl b) st' := fun e g => by
    show gcR st (outR (b__law_deed [some (.loc d), some (.str "flush"), some (.int 0), some (.tup []), none, none] st)) = _
    rw [e]; exact g
  cases hf : fallF l with
  | true =>
    rw [hf] at h1
    refine ⟨st1, s, fin ?_ (gcR_same l1), h1, k1, .inl rfl⟩
    unfold b__law_deed
    rw [sSeq_ap, p0]
    dsimp only
    rw [pre_ok h rfl, e1]
    simp [a2, a3, mg4 h1.o, truD, hf]
  | false =>
    rw [hf] at h1
    have q2 : (st1 ++ [O.dct (kvD T)])[d]? = some (mObj s t (fallL l) false) := get_app h1.o
    have hA : ModelAt ((st1 ++ [O.dct (kvD T)]).set d (mObj st.length t (fallL l) false)) d st.length t T T (fallL l) false := by
      refine ⟨List.getElem?_set_self (by simp; omega), ?_, ?_, ⟨by omega, h.n.2.1, by omega⟩⟩
      · rw [get_set_ne (by omega), ← l1]; exact get_new
      · rw [get_set_ne (Ne.symm h.n.2.1)]; exact get_app h1.ht
    refine ⟨_, st.length, fin ?_ (gc_mdl h hA.o (.inl (by omega))), hA, (k1.trans keep_app).trans (keep_set (by simp)), .inr (Nat.le_refl _)⟩
    unfold b__law_deed
    rw [sSeq_ap, p0]
    dsimp only
    rw [pre_ok h rfl, e1]
    simp [a2, a3, mg4 h1.o, truD, hf, mg2 h1.o, d1, l1, ms1 q2, mg4 hA.o]
theorem prs_ok : ∀ (L : KV), prsD (L.map fun p => D.tup [.int p.1, rowD p.2]) = some (kvD L)
  | [] => rfl
  | p :: r => by
    have ih := prs_ok r
    simp only [List.map_cons, prsD, ih, keyD, kvD]
    rfl
theorem nd_drop {T : KV} (n : Int) (h : ND T) : ND (dropR T n) := by
  unfold ND dropR
  exact h.sublist (List.Sublist.map _ List.filter_sublist)
theorem mdl_drop (h : ModelAt st d s t S T l false) (nd : ND T) (hz : T.length < 1000) (n : Int) :
    ∃ st', m__law_deed [.loc d, .str "drop", .int n, .tup []] st = .ok (.bl (!fallF l)) st' ∧ ModelAt st' d s st.length S (dropR T n) (fallL l) (fallF l) ∧ Keep [d, s, t] st st' := by
  have h1 := fall_atM (l' := fallL l) (f' := fallF l) h
  have hd := lt_get h.o
  have ht := lt_get h.ht
  have hs := lt_get h.hs
  generalize e1 : st.set d (mObj s t (fallL l) (fallF l)) = st1 at h1
  have l1 : st1.length = st.length := by rw [← e1]; simp
  have k1 : Keep [d, s, t] st st1 := by rw [← e1]; exact keep_set (by simp)
  have ht1 := lt_get h1.ht
  have q : (st1.set t (.fdc (kvD T)))[t]? = some (.fdc (kvD T)) := List.getElem?_set_self ht1
  have qd : (st1.set t (.fdc (kvD T)))[d]? = some (mObj s t (fallL l) (fallF l)) := by rw [get_set_ne h.n.2.1]; exact h1.o
  have q2 : (st1 ++ [O.dct (kvD (dropR T n))])[d]? = some (mObj s t (fallL l) (fallF l)) := get_app h1.o
  have hA : ModelAt ((st1 ++ [O.dct (kvD (dropR T n))]).set d (mObj s st.length (fallL l) (fallF l))) d s st.length S (dropR T n) (fallL l) (fallF l) := by
    refine ⟨List.getElem?_set_self (by simp; omega), ?_, ?_, ⟨h.n.1, by omega, by omega⟩⟩
    · rw [get_set_ne (Ne.symm h.n.1)]; exact get_app h1.hs
    · rw [get_set_ne (by omega), ← l1]; exact get_new
  refine ⟨_, ?_, hA, (k1.trans keep_app).trans (keep_set (by simp))⟩
  have hz2 : (T.map fun p => D.int p.1).length ≤ sizeLine := by
    rw [List.length_map]
    exact Nat.le_trans (Nat.le_of_lt hz) (by decide)
  have c1 : compGo (fun s => ∃ l, s[t]? = some (.fdc l) ∧ l.map (·.1) = (kvD T).map (·.1)) (.one 5) (cTst (cOp2 neD (cVar 5) (cVar 2))) (cTup [(cVar 5), (cOp2 getD (cOp2 getD (cVar 0) (cC (.str "there"))) (cVar 5))])
      (wipeD [some (.loc d), some (.str "drop"), some (.int n), some (.tup []), none, none] [5]) (T.map fun p => D.int p.1) (st1.set t (.fdc (kvD T))) = .ok ((dropR T n).map fun p => D.tup [.int p.1, rowD p.2]) (st1.set t (.fdc (kvD T))) := by
    rw [compGo_pure (fun x => match x with | .int k => decide (k ≠ n) | _ => false) (fun x => match x with | .int k => .tup [.int k, rowD ((getR T k).getD [])] | _ => .non) ⟨_, q, rfl⟩ _ fun x hx => ?_]
    · rw [List.filter_map, List.map_map]
      unfold dropR
      congr 1
      apply List.map_congr_left
      intro p hp
      show D.tup [.int p.1, rowD ((getR T p.1).getD [])] = _
      rw [getR_mem nd (List.mem_filter.mp hp).1]
      rfl
    · obtain ⟨p, hp, e⟩ := List.mem_map.mp hx
      subst e
      have e3 : getD (.loc t) (.int p.1) (st1.set t (.fdc (kvD T))) = .ok (rowD p.2) (st1.set t (.fdc (kvD T))) := by
        rw [getD_fdc q]
        simp [atK, keyD, val_kvD, getR_mem nd hp]
      refine ⟨[some (.loc d), some (.str "drop"), some (.int n), some (.tup []), none, some (.int p.1)], rfl, ?_, fun _ => ?_⟩
      · simp
      · simp [mg2 qd, e3, getR_mem nd hp]
  have c : lockD (cOp2 getD (cVar 0) (cC (.str "there"))) (cComp (cKeysI (cOp2 getD (cVar 0) (cC (.str "there")))) (.one 5) (cTst (cOp2 neD (cVar 5) (cVar 2))) (cTup [(cVar 5), (cOp2 getD (cOp2 getD (cVar 0) (cC (.str "there"))) (cVar 5))]) [5])
      [some (.loc d), some (.str "drop"), some (.int n), some (.tup []), none, none] st1 = .ok ((dropR T n).map fun p => D.tup [.int p.1, rowD p.2]) st1 := by
    have e0 : lockAt (cOp2 getD (cVar 0) (cC (.str "there"))) [some (.loc d), some (.str "drop"), some (.int n), some (.tup []), none, none] st1 = some (t, kvD T) := by simp [mg2 h1.o, h1.ht]
    rw [lockD_ap, e0]
    dsimp only
    have e2 : cComp (cKeysI (cOp2 getD (cVar 0) (cC (.str "there")))) (.one 5) (cTst (cOp2 neD (cVar 5) (cVar 2))) (cTup [(cVar 5), (cOp2 getD (cOp2 getD (cVar 0) (cC (.str "there"))) (cVar 5))]) [5] [some (.loc d), some (.str "drop"), some (.int n), some (.tup []), none, none] (st1.set t (.fdc (kvD T))) = .ok ((dropR T n).map fun p => D.tup [.int p.1, rowD p.2]) (st1.set t (.fdc (kvD T))) := by
      have e4 : cOp2 getD (cVar 0) (cC (.str "there")) [some (.loc d), some (.str "drop"), some (.int n), some (.tup []), none, none] (st1.set t (.fdc (kvD T))) = .ok (.loc t) (st1.set t (.fdc (kvD T))) := by simp [mg2 qd]
      simp only [cComp_ap, cKeysI_ap, e4, R.bind_ok, keysD, q, keys_kv, if_pos hz2, c1]
    rw [e2]
    simp only [lockGo, q, List.set_set, set_self h1.ht]
  have e : b__law_deed [some (.loc d), some (.str "drop"), some (.int n), some (.tup []), none, none] st = .rt (.bl (!fallF l)) ((st1 ++ [O.dct (kvD (dropR T n))]).set d (mObj s st.length (fallL l) (fallF l))) := by
    unfold b__law_deed
    rw [sSeq_ap]
    have p0 : sIf (cTru (cOp2 getD (cVar 0) (cC (.str "fallen")))) (sRet (cC (.bl false))) sNext [some (.loc d), some (.str "drop"), some (.int n), some (.tup []), none, none] st = .nx [some (.loc d), some (.str "drop"), some (.int n), some (.tup []), none, none] st := by
      simp [mg4 h.o, truD]
    rw [p0]
    dsimp only
    rw [pre_ok h rfl, e1]
    simp [-lockD_ap, a1, a6, c, prs_ok, merge_nodup (nd_drop n nd).kv, l1, ms2 q2, mg4 hA.o]
  show gcR st (outR _) = _
  rw [show ([D.loc d, .str "drop", .int n, .tup []].map some ++ List.replicate (6 - [D.loc d, .str "drop", .int n, .tup []].length) none) = [some (D.loc d), some (.str "drop"), some (.int n), some (.tup []), none, none] from rfl, e]
  exact gc_mdl h hA.o (.inr (by omega))
end
end PMl

set_option Elab.async false
set_option linter.all false
set_option maxRecDepth 100000
set_option maxHeartbeats 1000000
/-! the plain law of k25, 5: torn rows. -/
namespace PMl
open PySem PM L2
theorem getD_tup {xs : List D} {y : D} {st : Sto} : getD (.tup xs) y st = atD xs y st := rfl
theorem atD_nat {xs : List D} {i : Nat} {x : D} {st : Sto} (h : xs[i]? = some x) : atD xs (.int (i : Int)) st = .ok x st := by
  simp only [atD, PM.atI_nat h]
theorem choice_ok (cs : List Int) (i : Nat) (st : Sto) : m_choice [.tup (cs.map .int), .int (i : Int)] st = .ok (.int (cs.getD i 0)) st := by
  show gcR st (outR (b_choice [some (.tup (cs.map .int)), some (.int (i : Int))] st)) = _
  unfold b_choice
  have hl : lenD (.tup (cs.map D.int)) st = .ok (.int cs.length) st := by simp [lenD]
  by_cases h : i < cs.length
  · have e : (cs.map D.int)[i]? = some (.int (cs.getD i 0)) := by
      rw [List.getElem?_map, List.getElem?_eq_getElem h, List.getD_eq_getElem?_getD, List.getElem?_eq_getElem h]; rfl
    have e2 : getD (.tup (cs.map D.int)) (.int (i : Int)) st = .ok (.int (cs.getD i 0)) st := by rw [getD_tup, atD_nat e]
    simp [hl, ltD, h, e2, outR, gcR_id]
  · have e : cs.getD i 0 = 0 := by rw [List.getD_eq_getElem?_getD, List.getElem?_eq_none (by omega)]; rfl
    have h' : ¬ ((i : Int) < (cs.length : Int)) := by omega
    simp [hl, ltD, h, outR, gcR_id, e]
theorem cut_to {xs : List D} {k : Int} (h : 0 ≤ k) : cutD xs none (some k) = xs.take k.toNat := by
  obtain ⟨n, rfl⟩ := Int.eq_ofNat_of_zero_le h
  unfold cutD
  show (xs.drop 0).take (HT.sIx xs.length xs.length (some (n : Int)) - 0) = _
  rw [HT.sIx_nat, List.drop_zero, Nat.sub_zero]
  rw [Int.toNat_natCast]
  by_cases hn : n ≤ xs.length
  · rw [Nat.min_eq_left hn]
  · rw [Nat.min_eq_right (by omega), List.take_of_length_le (Nat.le_refl _), List.take_of_length_le (by omega)]
theorem cut_from {xs : List D} {k : Int} (h : 0 ≤ k) : cutD xs (some k) none = xs.drop k.toNat := by
  obtain ⟨n, rfl⟩ := Int.eq_ofNat_of_zero_le h
  unfold cutD
  show (xs.drop (HT.sIx xs.length 0 (some (n : Int)))).take (xs.length - HT.sIx xs.length 0 (some (n : Int))) = _
  rw [HT.sIx_nat, Int.toNat_natCast]
  by_cases hn : n ≤ xs.length
  · rw [Nat.min_eq_left hn, List.take_of_length_le (by simp)]
  · rw [Nat.min_eq_right (by omega), List.drop_length, List.drop_eq_nil_of_le (by omega), List.take_nil]
def tornP (tl : List Int) (keep change : Int) : List Int :=
  let kept := tl.take (keep.fmod (tl.length + 1)).toNat
  if 0 < kept.length ∧ change.fmod 2 = 1 then
    kept.set ((change.fdiv 2).fmod kept.length).toNat ((kept.getD ((change.fdiv 2).fmod kept.length).toNat 0 + 1 + ((change.fdiv 2).fdiv kept.length).fmod 255).fmod 256)
  else kept
theorem len_lt {n : Nat} (h : n ≤ 10000) : (n : Int).natAbs.log2 < 9000 := small_log (by omega)
theorem set_cut {xs : List Int} {k : Nat} {y : Int} (h : k < xs.length) : xs.take k ++ [y] ++ xs.drop (k + 1) = xs.set k y := by
  rw [List.set_eq_take_append_cons_drop, if_pos h]; simp
theorem torn_ok (tl : List Int) (keep change : Int) (st : Sto) (hz : tl.length ≤ 10000) : m_torn [.tup (tl.map .int), .int keep, .int change] st = .ok (.tup ((tornP tl keep change).map .int)) st := by
  show gcR st (outR (b_torn [some (.tup (tl.map .int)), some (.int keep), some (.int change), none, none, none] st)) = _
  have hpos : (0 : Int) < (tl.length : Int) + 1 := by omega
  have k0 := Int.fmod_nonneg_of_pos keep hpos
  have e0 : ∀ s, modD (.int keep) (.int ((tl.length : Int) + 1)) s = .ok (.int (keep.fmod ((tl.length : Int) + 1))) s := fun s => modD_int s (by omega)
  have c0 : sliceD (.tup (tl.map D.int)) none (some (keep.fmod ((tl.length : Int) + 1))) st = .ok (.tup ((tl.take (keep.fmod ((tl.length : Int) + 1)).toNat).map D.int)) st := by
    simp only [sliceD, cut_to k0, List.map_take]
  have e1 : ∀ s, modD (.int change) (.int 2) s = .ok (.int (change.fmod 2)) s := fun s => modD_int s (by decide)
  have e2 : ∀ s, fdivD (.int change) (.int 2) s = .ok (.int (change.fdiv 2)) s := fun s => fdivD_int s (by decide) (by decide)
  have lt : ∀ (xs : List Int) (s : Sto), lenD (.tup (xs.map D.int)) s = .ok (.int xs.length) s := fun xs s => by simp [lenD]
  unfold tornP
  dsimp only
  have hk : (tl.take (keep.fmod ((tl.length : Int) + 1)).toNat).length ≤ 10000 := by rw [List.length_take]; exact Nat.le_trans (Nat.min_le_right _ _) hz
  generalize tl.take (keep.fmod ((tl.length : Int) + 1)).toNat = kept at c0 hk ⊢
  unfold b_torn
  by_cases h1 : 0 < kept.length
  · by_cases h2 : change.fmod 2 = 1
    · rw [if_pos ⟨h1, h2⟩]
      have hp : (0 : Int) < (kept.length : Int) := by omega
      have p0 := Int.fmod_nonneg_of_pos (change.fdiv 2) hp
      have p1 := Int.fmod_lt_of_pos (change.fdiv 2) hp
      have e3 : ∀ s, modD (.int (change.fdiv 2)) (.int (kept.length : Int)) s = .ok (.int ((change.fdiv 2).fmod kept.length)) s := fun s => modD_int s (by omega)
      have e4 : ∀ s, fdivD (.int (change.fdiv 2)) (.int (kept.length : Int)) s = .ok (.int ((change.fdiv 2).fdiv kept.length)) s := fun s => fdivD_int s (by omega) (len_lt hk)
      have e5 : ∀ (i : Int) s, modD (.int i) (.int 255) s = .ok (.int (i.fmod 255)) s := fun i s => modD_int s (by decide)
      have e6 : ∀ (i : Int) s, modD (.int i) (.int 256) s = .ok (.int (i.fmod 256)) s := fun i s => modD_int s (by decide)
      generalize hpl : ((change.fdiv 2).fmod kept.length) = pl at p0 p1 e3 ⊢
      obtain ⟨p, rfl⟩ := Int.eq_ofNat_of_zero_le p0
      have hpk : p < kept.length := by omega
      have g : getD (.tup (kept.map D.int)) (.int (p : Int)) st = .ok (.int (kept.getD p 0)) st := by
        rw [getD_tup, atD_nat]
        rw [List.getElem?_map, List.getElem?_eq_getElem hpk, List.getD_eq_getElem?_getD, List.getElem?_eq_getElem hpk]; rfl
      have c1 : sliceD (.tup (kept.map D.int)) none (some (p : Int)) st = .ok (.tup ((kept.take p).map D.int)) st := by
        simp only [sliceD, cut_to p0, List.map_take, Int.toNat_natCast]
      have c2 : sliceD (.tup (kept.map D.int)) (some ((p : Int) + 1)) none st = .ok (.tup ((kept.drop (p + 1)).map D.int)) st := by
        simp only [sliceD, cut_from (show (0 : Int) ≤ (p : Int) + 1 by omega), List.map_drop, show ((p : Int) + 1).toNat = p + 1 by omega]
      have ad : ∀ (xs ys : List Int) (s : Sto), xs.length + ys.length ≤ 20000 → addD (.tup (xs.map D.int)) (.tup (ys.map D.int)) s = .ok (.tup ((xs ++ ys).map D.int)) s := fun xs ys s h => by
        have : xs.length + ys.length ≤ sizeLine := Nat.le_trans h (by decide)
        simp [addD, this]
      rw [Int.toNat_natCast]
      generalize kept.getD p 0 = kp at g ⊢
      generalize hby : (kp + 1 + ((change.fdiv 2).fdiv kept.length).fmod 255).fmod 256 = by_
      have a1 : addD (.tup ((kept.take p).map D.int)) (.tup [.int by_]) st = .ok (.tup ((kept.take p ++ [by_]).map D.int)) st := ad (kept.take p) [by_] st (by rw [List.length_take]; simp; omega)
      have a2 : addD (.tup ((kept.take p ++ [by_]).map D.int)) (.tup ((kept.drop (p + 1)).map D.int)) st = .ok (.tup ((kept.set p by_).map D.int)) st := by
        rw [ad _ _ st (by simp; omega), set_cut hpk]
      simp [-List.map_append, -List.map_take, -List.map_drop, -List.map_set, lt, e0, c0, gtD, h1, e1, h2, e2, e3, g, e4, e5, e6, hby, c1, c2, a1, a2, outR, gcR_id]
    · rw [if_neg (fun z => h2 z.2)]
      simp [-List.map_append, lt, e0, c0, gtD, h1, e1, h2, outR, gcR_id]
  · rw [if_neg (fun z => h1 z.1)]
    simp [-List.map_append, lt, e0, c0, gtD, h1, outR, gcR_id]
theorem pdAll_ints : ∀ ns : List Int, pdAll (ns.map D.int) = some (ns.map PyData.int)
  | [] => rfl
  | n :: r => by simp only [List.map_cons, pdAll, pd, pdAll_ints r]; rfl
theorem lay_ints : ∀ ns : List Int, PyData.canLayAll0 (ns.map PyData.int) = true
  | [] => rfl
  | n :: r => by
    have := lay_ints r
    simp only [List.map_cons, PyData.canLayAll0, this, PyData.canLay0, Bool.and_self]
theorem depth_ints : ∀ ns : List Int, PyData.depthAll (ns.map PyData.int) ≤ 1
  | [] => by simp [PyData.depthAll]
  | n :: r => by
    have := depth_ints r
    simp only [List.map_cons, PyData.depthAll, PyData.depth]
    omega
theorem shaped_ints (ns : List Int) : SeqAt.shaped (.list (ns.map PyData.int)) = true := by
  have h1 := lay_ints ns
  have h2 := depth_ints ns
  unfold SeqAt.shaped
  simp only [PyData.canLay0, PyData.depth, h1, Bool.true_and]
  exact decide_eq_true (by omega)
theorem neD_nil {st : Sto} {a b : Nat} {ns : List Int} (h : st[a]? = some (.lst (ns.map .int))) (h' : st[b]? = some (.lst [])) : neD (.loc a) (.loc b) st = .ok (.bl (!ns.isEmpty)) st := by
  have e : eqO (.loc a) (.loc b) st = some ns.isEmpty := by
    have p1 : pdS st (.loc a) = some (.list (ns.map PyData.int)) := by simp [pdS, h, pdAll_ints]
    have p2 : pdS st (.loc b) = some (.list []) := by simp [pdS, h', pdAll]
    unfold eqO
    rw [if_neg (by simp [scalD]), p1, p2]
    dsimp only
    rw [if_pos ⟨shaped_ints ns, shaped_ints []⟩]
    cases ns <;> rfl
  simp [neD, e]
theorem lawtorn_ok (tl : List Int) (keep change : Int) (st : Sto) (hz : tl.length ≤ 10000) : m__law_torn [.tup (tl.map .int), .int keep, .int change] st = .ok (.tup ((tornP tl keep change).map .int)) st := by
  have hpos : (0 : Int) < (tl.length : Int) + 1 := by omega
  have k0 := Int.fmod_nonneg_of_pos keep hpos
  have e0 : ∀ s, modD (.int keep) (.int ((tl.length : Int) + 1)) s = .ok (.int (keep.fmod ((tl.length : Int) + 1))) s := fun s => modD_int s (by omega)
  have c0 : sliceD (.tup (tl.map D.int)) none (some (keep.fmod ((tl.length : Int) + 1))) st = .ok (.tup ((tl.take (keep.fmod ((tl.length : Int) + 1)).toNat).map D.int)) st := by
    simp only [sliceD, cut_to k0, List.map_take]
  have e1 : ∀ s, modD (.int change) (.int 2) s = .ok (.int (change.fmod 2)) s := fun s => modD_int s (by decide)
  have e2 : ∀ s, fdivD (.int change) (.int 2) s = .ok (.int (change.fdiv 2)) s := fun s => fdivD_int s (by decide) (by decide)
  have lt : ∀ (xs : List Int) (s : Sto), lenD (.tup (xs.map D.int)) s = .ok (.int xs.length) s := fun xs s => by simp [lenD]
  have sq : ∀ (xs : List Int) (s : Sto), seqD (.tup (xs.map D.int)) s = .ok (xs.map D.int) s := fun xs s => rfl
  unfold tornP
  dsimp only
  have hk : (tl.take (keep.fmod ((tl.length : Int) + 1)).toNat).length ≤ 10000 := by rw [List.length_take]; exact Nat.le_trans (Nat.min_le_right _ _) hz
  generalize tl.take (keep.fmod ((tl.length : Int) + 1)).toNat = kept at c0 hk ⊢
  have g1 : ∀ g : Sto, (st ++ O.lst (kept.map D.int) :: g)[st.length]? = some (.lst (kept.map D.int)) := fun g => get_new
  have g2 : (st ++ [O.lst (kept.map D.int), .lst []])[st.length + 1]? = some (.lst []) := by
    rw [List.getElem?_append_right (Nat.le_succ _)]
    simp
  have ne : neD (.loc st.length) (.loc (st.length + 1)) (st ++ [O.lst (kept.map D.int), .lst []]) = .ok (.bl (!kept.isEmpty)) (st ++ [O.lst (kept.map D.int), .lst []]) := neD_nil (g1 _) g2
  have fin : ∀ {xs : List Int} {g : Sto}, b__law_torn [some (.tup (tl.map .int)), some (.int keep), some (.int change), none, none] st = .rt (.tup (xs.map D.int)) (st ++ g) → m__law_torn [.tup (tl.map .int), .int keep, .int change] st = .ok (.tup (xs.map .int)) st := fun {xs g} e => by
    show gcR st (outR (b__law_torn [some (.tup (tl.map .int)), some (.int keep), some (.int change), none, none] st)) = _
    rw [e]
    refine gcR_pure ?_
    show belowAll st.length (xs.map D.int) = true
    have : ∀ xs : List Int, belowAll st.length (xs.map D.int) = true := fun xs => by
      induction xs with
      | nil => rfl
      | cons x r ih => simpa [belowAll, below] using ih
    exact this xs
  by_cases h1 : kept = []
  · subst h1
    rw [if_neg (by simp)]
    refine fin (g := [O.lst [], .lst []]) ?_
    unfold b__law_torn
    have g3 : seqD (.loc st.length) (st ++ [O.lst ([].map D.int), .lst []]) = .ok [] (st ++ [O.lst ([].map D.int), .lst []]) := by
      show seqD (.loc st.length) (st ++ O.lst [] :: [O.lst []]) = _
      simp only [seqD, get_new, List.map_nil]
    simp only [List.map_nil] at c0 g1 g2 ne g3
    have sq0 : ∀ s : Sto, seqD (.tup []) s = .ok [] s := fun s => rfl
    simp [lt, sq0, lstS, e0, c0, ne, g3, tupS, List.append_assoc]
  · have hl : 0 < kept.length := List.length_pos_iff.mpr h1
    have hi : kept.isEmpty = false := by cases kept with | nil => exact absurd rfl h1 | cons _ _ => rfl
    rw [hi] at ne
    have l2 : lenD (.loc st.length) (st ++ [O.lst (kept.map D.int), .lst []]) = .ok (.int kept.length) (st ++ [O.lst (kept.map D.int), .lst []]) := by
      rw [lenD_lst (g1 _), List.length_map]
    by_cases h2 : change.fmod 2 = 1
    · rw [if_pos ⟨hl, h2⟩]
      have hp : (0 : Int) < (kept.length : Int) := by omega
      have p0 := Int.fmod_nonneg_of_pos (change.fdiv 2) hp
      have p1 := Int.fmod_lt_of_pos (change.fdiv 2) hp
      have e3 : ∀ s, modD (.int (change.fdiv 2)) (.int (kept.length : Int)) s = .ok (.int ((change.fdiv 2).fmod kept.length)) s := fun s => modD_int s (by omega)
      have e4 : ∀ s, fdivD (.int (change.fdiv 2)) (.int (kept.length : Int)) s = .ok (.int ((change.fdiv 2).fdiv kept.length)) s := fun s => fdivD_int s (by omega) (len_lt hk)
      have e5 : ∀ (i : Int) s, modD (.int i) (.int 255) s = .ok (.int (i.fmod 255)) s := fun i s => modD_int s (by decide)
      have e6 : ∀ (i : Int) s, modD (.int i) (.int 256) s = .ok (.int (i.fmod 256)) s := fun i s => modD_int s (by decide)
      generalize hpl : ((change.fdiv 2).fmod kept.length) = pl at p0 p1 e3 ⊢
      obtain ⟨p, rfl⟩ := Int.eq_ofNat_of_zero_le p0
      have hpk : p < kept.length := by omega
      have g : getD (.loc st.length) (.int (p : Int)) (st ++ [O.lst (kept.map D.int), .lst []]) = .ok (.int (kept.getD p 0)) (st ++ [O.lst (kept.map D.int), .lst []]) := by
        rw [getD_lst (g1 _), atD_nat]
        rw [List.getElem?_map, List.getElem?_eq_getElem hpk, List.getD_eq_getElem?_getD, List.getElem?_eq_getElem hpk]; rfl
      rw [Int.toNat_natCast]
      generalize kept.getD p 0 = kp at g ⊢
      generalize hby : (kp + 1 + ((change.fdiv 2).fdiv kept.length).fmod 255).fmod 256 = by_
      have sd : setD (.loc st.length) (.int (p : Int)) (.int by_) (st ++ [O.lst (kept.map D.int), .lst []]) = some (st ++ [O.lst ((kept.set p by_).map D.int), .lst []]) := by
        rw [setD_lst (g1 _)]
        have e : ixN (kept.map D.int).length (p : Int) = some p := by
          unfold ixN
          rw [if_pos p0, if_pos (by rw [List.length_map]; omega), Int.toNat_natCast]
        rw [e]
        show some ((st ++ _).set st.length _) = _
        rw [List.set_append_right _ _ (Nat.le_refl _), Nat.sub_self, List.map_set]
        rfl
      refine fin (g := [O.lst ((kept.set p by_).map D.int), .lst []]) ?_
      have g4 : seqD (.loc st.length) (st ++ [O.lst ((kept.set p by_).map D.int), .lst []]) = .ok ((kept.set p by_).map D.int) (st ++ [O.lst ((kept.set p by_).map D.int), .lst []]) := by
        simp only [seqD, get_new]
      unfold b__law_torn
      simp [-List.map_set, lt, sq, lstS, e0, c0, ne, e1, h2, l2, e2, e3, e4, e5, e6, g, hby, sd, g4, tupS, List.append_assoc]
    · rw [if_neg (fun z => h2 z.2)]
      refine fin (g := [O.lst (kept.map D.int), .lst []]) ?_
      have g4 : seqD (.loc st.length) (st ++ [O.lst (kept.map D.int), .lst []]) = .ok (kept.map D.int) (st ++ [O.lst (kept.map D.int), .lst []]) := by
        simp only [seqD, g1]
      unfold b__law_torn
      simp [lt, sq, lstS, e0, c0, ne, e1, h2, g4, tupS, List.append_assoc]
end PMl

set_option Elab.async false
set_option linter.all false
set_option maxRecDepth 100000
set_option maxHeartbeats 1000000
/-! the plain law of k25, 6: what rise leaves, in plain Lean. -/
namespace PMl
open PySem PM L2
def keysR (T : KV) : List Int := T.map (·.1)
theorem getR_some {T : KV} {k : Int} {r : List Int} (h : getR T k = some r) : (k, r) ∈ T := by
  unfold getR at h
  obtain ⟨p, hp, e⟩ := Option.map_eq_some_iff.mp h
  have h1 := List.mem_of_find?_eq_some hp
  have h2 : p.1 = k := by simpa using List.find?_some hp
  subst e h2
  exact h1
theorem getR_key {T : KV} {k : Int} : (getR T k).isSome = true ↔ k ∈ keysR T := by
  constructor
  · intro h
    obtain ⟨r, e⟩ := Option.isSome_iff_exists.mp h
    exact List.mem_map_of_mem (getR_some e)
  · intro h
    obtain ⟨p, hp, e⟩ := List.mem_map.mp h
    unfold getR
    rw [Option.isSome_map, List.find?_isSome]
    exact ⟨p, hp, by simpa using e⟩
theorem keys_put {T : KV} {k : Int} {r : List Int} : keysR (putR T k r) = if k ∈ keysR T then keysR T else keysR T ++ [k] := by
  unfold putR keysR
  have e : (T.any fun p => decide (p.1 = k)) = true ↔ k ∈ T.map (·.1) := by simp
  by_cases h : k ∈ T.map (·.1)
  · rw [if_pos (e.mpr h), if_pos h, List.map_map]
    apply List.map_congr_left
    intro p _
    simp only [Function.comp]
    split <;> rfl
  · rw [if_neg (fun z => h (e.mp z)), if_neg h, List.map_append]
    rfl
theorem nd_put {T : KV} {k : Int} {r : List Int} (h : ND T) : ND (putR T k r) := by
  show (keysR (putR T k r)).Nodup
  rw [keys_put]
  split
  · exact h
  · rename_i hk
    exact List.nodup_append.mpr ⟨h, by simp, fun a ha b hb e => by
      have := List.mem_singleton.mp hb
      subst this e
      exact hk ha⟩
theorem mem_put {T : KV} {k : Int} {r : List Int} {p : Int × List Int} (h : p ∈ putR T k r) : p = (k, r) ∨ p ∈ T := by
  unfold putR at h
  split at h
  · obtain ⟨q, hq, e⟩ := List.mem_map.mp h
    split at e
    · rename_i hk
      exact .inl (by rw [← e, hk])
    · exact .inr (by rw [← e]; exact hq)
  · rcases List.mem_append.mp h with h | h
    · exact .inr h
    · exact .inl (List.mem_singleton.mp h)
theorem len_put {T : KV} {k : Int} {r : List Int} : (putR T k r).length ≤ T.length + 1 := by
  unfold putR
  split
  · rw [List.length_map]; omega
  · simp
theorem getR_put {T : KV} {k n : Int} {r : List Int} : getR (putR T k r) n = if k = n then some r else getR T n := by
  unfold putR getR
  by_cases hk : T.any (fun p => decide (p.1 = k)) = true
  · rw [if_pos hk]
    induction T with
    | nil => simp at hk
    | cons p t ih =>
      rw [List.map_cons, List.find?_cons, List.find?_cons]
      by_cases e1 : p.1 = k
      · by_cases e2 : k = n
        · subst e2; simp [e1]
        · have e3 : ¬ p.1 = n := fun z => e2 (e1 ▸ z)
          simp only [e1, if_true, e2, decide_false, if_false]
          by_cases hk2 : t.any (fun p => decide (p.1 = k)) = true
          · have := ih hk2; simpa [e2] using this
          · have hm : t.map (fun p => if p.1 = k then (p.1, r) else p) = t := by
              conv => rhs; rw [← List.map_id t]
              apply List.map_congr_left
              intro q hq
              rw [if_neg]
              · rfl
              · intro z
                exact hk2 (List.any_eq_true.mpr ⟨q, hq, decide_eq_true z⟩)
            rw [hm]
      · have hk2 : t.any (fun p => decide (p.1 = k)) = true := by simpa [e1] using hk
        rw [if_neg e1]
        by_cases e2 : p.1 = n
        · have e3 : ¬ k = n := fun z => e1 (e2.trans z.symm)
          simp [e2, e3]
        · simp only [e2, decide_false]
          exact ih hk2
  · rw [if_neg hk, List.find?_append]
    by_cases e : k = n
    · subst e
      have : T.find? (fun p => decide (p.1 = k)) = none := by
        rw [List.find?_eq_none]
        intro p hp z
        exact hk (List.any_eq_true.mpr ⟨p, hp, z⟩)
      simp [this]
    · simp [e]
theorem getR_drop {T : KV} {k n : Int} : getR (dropR T k) n = if k = n then none else getR T n := by
  unfold dropR getR
  induction T with
  | nil => simp
  | cons p t ih =>
    rw [List.filter_cons]
    by_cases e1 : p.1 = k
    · have : decide (p.1 ≠ k) = false := by simpa using e1
      rw [this]
      simp only [Bool.false_eq_true, if_false]
      rw [ih]
      by_cases e2 : k = n
      · simp [e2]
      · have e3 : ¬ p.1 = n := fun z => e2 (e1 ▸ z)
        simp [e2, e3]
    · have : decide (p.1 ≠ k) = true := by simpa using e1
      rw [this]
      simp only [if_true]
      rw [List.find?_cons, List.find?_cons]
      by_cases e2 : p.1 = n
      · have e3 : ¬ k = n := fun z => e1 (e2.trans z.symm)
        simp [e2, e3]
      · simp only [e2, decide_false]
        exact ih
/-- a set has no more members than a list that holds them -/
theorem nodup_le : ∀ {l U : List Int}, l.Nodup → (∀ x ∈ l, x ∈ U) → l.length ≤ U.length
  | [], _, _, _ => Nat.zero_le _
  | x :: r, U, h, hs => by
    have h' := List.nodup_cons.mp h
    have hx := hs x List.mem_cons_self
    have ih := nodup_le (U := U.erase x) h'.2 fun y hy => (List.mem_erase_of_ne (fun z : y = x => h'.1 (by rw [← z]; exact hy))).mpr (hs y (List.mem_cons_of_mem _ hy))
    rw [List.length_erase_of_mem hx] at ih
    have := List.length_pos_of_mem hx
    rw [List.length_cons]
    omega
/-! ### one number of rise -/
def tailR (S T : KV) (n : Int) : List Int := ((getR T n).getD []).drop ((getR S n).getD []).length
def riseStep (S T : KV) (cs : List Int) (p : KV × Nat) (n : Int) : KV × Nat :=
  if (getR T n).isSome = true then
    (if 0 < (tailR S T n).length then
      (if (getR S n).isSome = true ∨ 0 < ((getR S n).getD [] ++ tornP (tailR S T n) (cs.getD p.2 0) (cs.getD (p.2 + 1) 0)).length then putR p.1 n ((getR S n).getD [] ++ tornP (tailR S T n) (cs.getD p.2 0) (cs.getD (p.2 + 1) 0)) else p.1, p.2 + 2)
    else (if (getR S n).isSome = true ∨ 0 < ((getR S n).getD []).length then putR p.1 n ((getR S n).getD []) else p.1, p.2))
  else if (getR S n).isSome = true then (if (cs.getD p.2 0).fmod 2 = 1 then putR p.1 n ((getR S n).getD []) else p.1, p.2 + 1) else p
def riseP (S T : KV) (cs : List Int) (ks : List Int) : KV × Nat := ks.foldl (riseStep S T cs) ([], 0)
def cost (S T : KV) (n : Int) : Nat := if (getR T n).isSome = true then (if 0 < (tailR S T n).length then 2 else 0) else if (getR S n).isSome = true then 1 else 0
theorem step_at (S T : KV) (cs : List Int) (p : KV × Nat) (n : Int) : (riseStep S T cs p n).2 = p.2 + cost S T n := by
  unfold riseStep cost
  split
  · split <;> rfl
  · split <;> rfl
theorem fold_at (S T : KV) (cs : List Int) : ∀ (ks : List Int) (p : KV × Nat), (ks.foldl (riseStep S T cs) p).2 = p.2 + (ks.map (cost S T)).sum
  | [], p => by simp
  | n :: r, p => by
    rw [List.foldl_cons, fold_at S T cs r, step_at, List.map_cons, List.sum_cons]
    omega
theorem cost_le {S T : KV} {A B : List Int} (hA : ∀ n, (getR S n).isSome = true → (getR T n).isSome = false → n ∈ A) (hB : ∀ n, 0 < (tailR S T n).length → n ∈ B) : ∀ ks : List Int, (ks.map (cost S T)).sum ≤ (ks.filter (· ∈ A)).length + 2 * (ks.filter (· ∈ B)).length
  | [] => by simp
  | n :: r => by
    have ih := cost_le hA hB r
    rw [List.map_cons, List.sum_cons, List.filter_cons, List.filter_cons]
    have c1 : cost S T n ≤ (if n ∈ A then 1 else 0) + 2 * (if n ∈ B then 1 else 0) := by
      unfold cost
      split
      · split
        · rename_i h; rw [if_pos (hB n h)]; omega
        · omega
      · rename_i h1
        split
        · rename_i h2
          rw [if_pos (hA n h2 (by simpa using h1))]; omega
        · omega
    by_cases ha : n ∈ A <;> by_cases hb : n ∈ B <;> simp only [ha, hb, decide_true, decide_false, if_true, if_false, List.length_cons, Bool.false_eq_true] at c1 ⊢ <;> omega
theorem cost_small {S T : KV} {A B ks : List Int} (hA : ∀ n, (getR S n).isSome = true → (getR T n).isSome = false → n ∈ A) (hB : ∀ n, 0 < (tailR S T n).length → n ∈ B) (nk : ks.Nodup) (la : A.length ≤ 5) (lb : B.length ≤ 5) : (ks.map (cost S T)).sum ≤ 15 := by
  have h1 := cost_le hA hB ks
  have h2 : (ks.filter (· ∈ A)).length ≤ A.length := nodup_le (nk.sublist List.filter_sublist) fun x hx => by simpa using (List.mem_filter.mp hx).2
  have h3 : (ks.filter (· ∈ B)).length ≤ B.length := nodup_le (nk.sublist List.filter_sublist) fun x hx => by simpa using (List.mem_filter.mp hx).2
  omega
theorem torn_len (tl : List Int) (a b : Int) : (tornP tl a b).length ≤ tl.length := by
  unfold tornP
  dsimp only
  split
  · rw [List.length_set, List.length_take]; omega
  · rw [List.length_take]; omega
/-- what holds of the rows that rise leaves -/
structure RiseOk (S T : KV) (M : Nat) (acc : KV) : Prop where
  nd : ND acc
  ks : ∀ n ∈ keysR acc, n ∈ keysR S ∨ n ∈ keysR T
  ln : ∀ p ∈ acc, p.2.length ≤ M
theorem RiseOk.put {S T : KV} {M : Nat} {acc : KV} {n : Int} {r : List Int} (h : RiseOk S T M acc) (hn : n ∈ keysR S ∨ n ∈ keysR T) (hr : r.length ≤ M) : RiseOk S T M (putR acc n r) := by
  refine ⟨nd_put h.nd, fun k hk => ?_, fun p hp => ?_⟩
  · rw [keys_put] at hk
    split at hk
    · exact h.ks k hk
    · rcases List.mem_append.mp hk with hk | hk
      · exact h.ks k hk
      · rw [List.mem_singleton.mp hk]; exact hn
  · rcases mem_put hp with e | e
    · rw [e]; exact hr
    · exact h.ln p e
theorem row_len {S : KV} {M : Nat} (h : ∀ p ∈ S, p.2.length ≤ M) (n : Int) : ((getR S n).getD []).length ≤ M := by
  cases e : getR S n with
  | none => exact Nat.zero_le _
  | some r => exact h _ (getR_some e)
theorem step_ok {S T : KV} {M : Nat} {cs : List Int} (hS : ∀ p ∈ S, p.2.length ≤ M) (hT : ∀ p ∈ T, p.2.length ≤ M) {p : KV × Nat} {n : Int} (h : RiseOk S T M p.1) : RiseOk S T M (riseStep S T cs p n).1 := by
  have lS := row_len hS n
  have lT := row_len hT n
  unfold riseStep
  split
  · rename_i h1
    have k1 : n ∈ keysR S ∨ n ∈ keysR T := .inr (getR_key.mp h1)
    split
    · rename_i h2
      have hl : ((getR S n).getD [] ++ tornP (tailR S T n) (cs.getD p.2 0) (cs.getD (p.2 + 1) 0)).length ≤ M := by
        have := torn_len (tailR S T n) (cs.getD p.2 0) (cs.getD (p.2 + 1) 0)
        have e : (tailR S T n).length = ((getR T n).getD []).length - ((getR S n).getD []).length := List.length_drop
        rw [List.length_append]
        omega
      dsimp only
      split
      · exact h.put k1 hl
      · exact h
    · dsimp only
      split
      · exact h.put k1 lS
      · exact h
  · split
    · rename_i h2
      have k1 : n ∈ keysR S ∨ n ∈ keysR T := .inl (getR_key.mp h2)
      dsimp only
      split
      · exact h.put k1 lS
      · exact h
    · exact h
theorem fold_ok {S T : KV} {M : Nat} {cs : List Int} (hS : ∀ p ∈ S, p.2.length ≤ M) (hT : ∀ p ∈ T, p.2.length ≤ M) : ∀ (ks : List Int) {p : KV × Nat}, RiseOk S T M p.1 → RiseOk S T M (ks.foldl (riseStep S T cs) p).1
  | [], _, h => h
  | n :: r, p, h => fold_ok hS hT r (step_ok hS hT h)
/-! ### the order in which the numbers stand -/
def rng60 : List Int := (List.range 60).map fun i => ((i : Nat) : Int)
theorem rng_mem {k : Int} : k ∈ rng60 ↔ 0 ≤ k ∧ k < 60 := by
  unfold rng60
  rw [List.mem_map]
  constructor
  · rintro ⟨i, hi, e⟩
    have := List.mem_range.mp hi
    omega
  · intro h
    exact ⟨k.toNat, List.mem_range.mpr (by omega), by omega⟩
theorem rng_sorted : rng60.Pairwise (· < ·) := by
  unfold rng60
  exact List.Pairwise.map _ (fun a b h => by exact Int.ofNat_lt.mpr h) List.pairwise_lt_range
theorem fold_skip {S T : KV} {cs : List Int} : ∀ (ks : List Int) (p : KV × Nat), ks.foldl (riseStep S T cs) p = (ks.filter fun n => (getR S n).isSome || (getR T n).isSome).foldl (riseStep S T cs) p
  | [], p => rfl
  | n :: r, p => by
    rw [List.foldl_cons, List.filter_cons]
    by_cases h : ((getR S n).isSome || (getR T n).isSome) = true
    · rw [if_pos h, List.foldl_cons, fold_skip r]
    · rw [if_neg h]
      have h' : (getR S n).isSome = false ∧ (getR T n).isSome = false := by simpa using h
      have e : riseStep S T cs p n = p := by
        unfold riseStep
        rw [h'.1, h'.2]
        simp
      rw [e, fold_skip r]
theorem keys_sorted {S T : KV} (h : ∀ n, n ∈ keysR S ∨ n ∈ keysR T → 0 ≤ n ∧ n < 60) : setI (keysR S ++ keysR T) = rng60.filter fun n => (getR S n).isSome || (getR T n).isSome := by
  refine (setI_uniq (rng_sorted.sublist List.filter_sublist) fun k => ?_).symm
  rw [List.mem_filter, rng_mem, Bool.or_eq_true, getR_key, getR_key, List.mem_append]
  exact ⟨fun z => z.2, fun z => ⟨h k z, z⟩⟩
theorem rise_same {S T : KV} {cs : List Int} (h : ∀ n, n ∈ keysR S ∨ n ∈ keysR T → 0 ≤ n ∧ n < 60) : riseP S T cs (setI (keysR S ++ keysR T)) = riseP S T cs rng60 := by
  unfold riseP
  rw [keys_sorted h, ← fold_skip]
end PMl

set_option Elab.async false
set_option linter.all false
set_option maxRecDepth 100000
set_option maxHeartbeats 2000000
/-! the plain law of k25, 7: rise. -/
namespace PMl
open PySem PM L2
theorem intKeys_kv : ∀ T : KV, intKeys (kvD T) = some (keysR T)
  | [] => rfl
  | p :: r => by
    have ih := intKeys_kv r
    show (intKeys (kvD r)).map (p.1 :: ·) = _
    rw [ih]; rfl
theorem intsD_ints : ∀ ns : List Int, intsD (ns.map D.int) = some ns
  | [] => rfl
  | n :: r => by
    have ih := intsD_ints r
    show (intsD (r.map D.int)).map (n :: ·) = _
    rw [ih]; rfl
theorem keysD_kv (T : KV) : ((kvD T).map fun kv => kD kv.1) = (keysR T).map D.int := by
  rw [keys_kv]; unfold keysR; rw [List.map_map]; rfl
theorem get_or {T : KV} {n : Int} {d : Nat} {st : Sto} (h : st[d]? = some (.dct (kvD T))) (hn : (getR T n).isSome = true) : getD (.loc d) (.int n) st = .ok (rowD ((getR T n).getD [])) st := by
  obtain ⟨r, e⟩ := Option.isSome_iff_exists.mp hn
  rw [get_dct h e, e]; rfl
theorem keyD_int (n : Int) : keyD (.int n) = some (.inl n) := rfl
theorem slice_row (r : List Int) (k : Nat) (st : Sto) : sliceD (rowD r) (some (k : Int)) none st = .ok (rowD (r.drop k)) st := by
  simp only [sliceD, rowD, cut_from (Int.natCast_nonneg k), Int.toNat_natCast, List.map_drop]
theorem len_row (r : List Int) (st : Sto) : lenD (rowD r) st = .ok (.int r.length) st := by simp [lenD, rowD]
theorem add_row {r q : List Int} (h : r.length + q.length ≤ 20000) (st : Sto) : addD (rowD r) (rowD q) st = .ok (rowD (r ++ q)) st := by
  have : r.length + q.length ≤ sizeLine := Nat.le_trans h (by decide)
  simp [addD, rowD, this]
theorem put_dct {T : KV} {n : Int} {r : List Int} {d : Nat} {st : Sto} (h : st[d]? = some (.dct (kvD T))) (hz : T.length < 1000) : setD (.loc d) (.int n) (rowD r) st = some (st.set d (.dct (kvD (putR T n r)))) := by
  rw [setD_dct h (k := .inl n) rfl (by unfold kvD; rw [List.length_map]; exact Nat.lt_of_lt_of_le hz (by decide)), put_kvD]
theorem set_last {st : Sto} {a b : O} : (st ++ [a]).set st.length b = st ++ [b] := by
  rw [List.set_append_right _ _ (Nat.le_refl _), Nat.sub_self]; rfl
section
variable {d s t : Nat} {st : Sto} {S T : KV} {l : Int} {f : Bool}
/-- the place of rise's loop -/
abbrev envR (d : Nat) (cs : List Int) (N : Nat) (at_ : Nat) (x y z : Option D) : PM.Env := [some (.loc d), some (.tup (cs.map .int)), some (.loc N), some (.int (at_ : Int)), x, y, z]
theorem rise_body (h : DiskAt st d s t S T l f) (cs : List Int) (M : Nat) (hM : M ≤ 10000) (hS : ∀ p ∈ S, p.2.length ≤ M) (hT : ∀ p ∈ T, p.2.length ≤ M) (n : Int) (hn : n ∈ keysR S ∨ n ∈ keysR T) (acc : KV) (hz : acc.length < 1000) (at_ : Nat) (x y z : Option D) (body : PM.S)
    (hb : body = (sSeq (sIf (cTst (cOp2 notInD (cVar 4) (cB1 (fldOf [0] "_there") (cVar 0)))) (sSeq (sIf (cTst (cOp2 eqD (cOp2 modD (cCall m_choice [(cVar 1), (cVar 3)]) (cC (.int 2))) (cC (.int 1)))) (sSub (cVar 2) (cVar 4) (cOp2 getD (cB1 (fldOf [0] "_sure") (cVar 0)) (cVar 4))) sNext)
      (sSeq (sAug 3 iaddD (cC (.int 1))) sCont)) sNext)
      (sSeq (sSet 5 (cGet2 (cB1 (fldOf [0] "_sure") (cVar 0)) (cVar 4) (cTup [])))
      (sSeq (sSet 6 (cSlice (cOp2 getD (cB1 (fldOf [0] "_there") (cVar 0)) (cVar 4)) (cPart (cB1 lenD (cVar 5))) cNoPart))
      (sSeq (sIf (cTst (cOp2 gtD (cB1 lenD (cVar 6)) (cC (.int 0)))) (sSeq (sSet 5 (cOp2 addD (cVar 5) (cCall m_torn [(cVar 6), (cCall m_choice [(cVar 1), (cVar 3)]), (cCall m_choice [(cVar 1), (cOp2 addD (cVar 3) (cC (.int 1)))])])))
      (sAug 3 iaddD (cC (.int 2)))) sNext)
      (sIf (tOrD (cTst (cOp2 inD (cVar 4) (cB1 (fldOf [0] "_sure") (cVar 0)))) (cTst (cOp2 gtD (cB1 lenD (cVar 5)) (cC (.int 0))))) (sSub (cVar 2) (cVar 4) (cVar 5)) sNext)))))) :
    ∃ y' z', (body (envR d cs st.length at_ (some (.int n)) y z) (st ++ [O.dct (kvD acc)]) = .nx (envR d cs st.length (riseStep S T cs (acc, at_) n).2 (some (.int n)) y' z') (st ++ [O.dct (kvD (riseStep S T cs (acc, at_) n).1)]) ∨
      body (envR d cs st.length at_ (some (.int n)) y z) (st ++ [O.dct (kvD acc)]) = .ct (envR d cs st.length (riseStep S T cs (acc, at_) n).2 (some (.int n)) y' z') (st ++ [O.dct (kvD (riseStep S T cs (acc, at_) n).1)])) := by
  have ho : (st ++ [O.dct (kvD acc)])[d]? = some (dObj s t l f) := get_app h.o
  have hs : (st ++ [O.dct (kvD acc)])[s]? = some (.dct (kvD S)) := get_app h.hs
  have ht : (st ++ [O.dct (kvD acc)])[t]? = some (.dct (kvD T)) := get_app h.ht
  have hq : (st ++ [O.dct (kvD acc)])[st.length]? = some (.dct (kvD acc)) := get_new
  have ch0 : ∀ s, m_choice [.tup (cs.map .int), .int (at_ : Int)] s = .ok (.int (cs.getD at_ 0)) s := fun s => choice_ok cs at_ s
  have ch1 : ∀ s, m_choice [.tup (cs.map .int), .int ((at_ : Int) + 1)] s = .ok (.int (cs.getD (at_ + 1) 0)) s := fun s => choice_ok cs (at_ + 1) s
  have e1 : ∀ (i : Int) s, modD (.int i) (.int 2) s = .ok (.int (i.fmod 2)) s := fun i s => modD_int s (by decide)
  have sd : ∀ r : List Int, setD (.loc st.length) (.int n) (rowD r) (st ++ [O.dct (kvD acc)]) = some (st ++ [O.dct (kvD (putR acc n r))]) := fun r => by rw [put_dct hq hz, set_last]
  have dS : dctD (.loc s) (st ++ [O.dct (kvD acc)]) = .ok (kvD S) (st ++ [O.dct (kvD acc)]) := by simp only [dctD, hs]
  have lS := row_len hS n
  have lT := row_len hT n
  have g2 := get2_ok (T := S) n
  have k2 := keyD_int n
  have aug : ∀ (i j : Int) s, iaddD (.int i) (.int j) s = .ok (.int (i + j)) s := fun i j s => rfl
  have F1 := fld1 ho
  have F2 := fld2 ho
  have N1 := notIn_dct (n := n) ht
  have I1 := in_dct (n := n) hs
  have G1 := get_or (n := n) hs
  have G2 := get_or (n := n) ht
  have or_ : (getR T n).isSome = false → (getR S n).isSome = true := fun z => by
    rcases hn with hn | hn
    · exact getR_key.mpr hn
    · rw [getR_key.mpr hn] at z; cases z
  subst hb
  unfold riseStep tailR
  dsimp only
  generalize cs.getD at_ 0 = A at ch0 ⊢
  generalize cs.getD (at_ + 1) 0 = B at ch1 ⊢
  generalize (getR S n).isSome = bS at I1 G1 or_ ⊢
  generalize (getR T n).isSome = bT at N1 G2 or_ ⊢
  generalize (getR S n).getD [] = r0 at G1 g2 lS ⊢
  generalize (getR T n).getD [] = row at G2 lT ⊢
  have sl := slice_row row r0.length
  have tl : ∀ s, m_torn [rowD (row.drop r0.length), .int A, .int B] s = .ok (rowD (tornP (row.drop r0.length) A B)) s := fun s => torn_ok (row.drop r0.length) A B s (by rw [List.length_drop]; omega)
  have tlen := torn_len (row.drop r0.length) A B
  have ar : ∀ s, addD (rowD r0) (rowD (tornP (row.drop r0.length) A B)) s = .ok (rowD (r0 ++ tornP (row.drop r0.length) A B)) s := fun s => add_row (by rw [List.length_drop] at tlen; omega) s
  generalize row.drop r0.length = tail at sl tl tlen ar ⊢
  generalize tornP tail A B = tn at tl ar ⊢
  generalize hs1 : st ++ [O.dct (kvD acc)] = s1 at *
  cases bT with
  | false =>
    have hS1 := or_ rfl
    subst hS1
    have G1 := G1 rfl
    refine ⟨y, z, .inr ?_⟩
    by_cases hc : A.fmod 2 = 1
    · simp [F1, F2, N1, I1, G1, ch0, e1, hc, sd, aug]
    · simp [F1, F2, N1, I1, G1, ch0, e1, hc, sd, aug, hs1]
  | true =>
    have G2 := G2 rfl
    by_cases hl : 0 < tail.length
    · by_cases h3 : bS = true
      · refine ⟨some (rowD (r0 ++ tn)), some (rowD tail), .inl ?_⟩
        simp [F1, F2, N1, I1, G2, dS, k2, g2, len_row, sl, gtD, hl, ch0, ch1, tl, ar, aug, h3, sd]
      · have h3 : bS = false := by simpa using h3
        by_cases h4 : 0 < (r0 ++ tn).length
        · refine ⟨some (rowD (r0 ++ tn)), some (rowD tail), .inl ?_⟩
          have h5 : (0 : Int) < ((r0 ++ tn).length : Int) := by omega
          simp [-List.length_append, F1, F2, N1, I1, G2, dS, k2, g2, len_row, sl, gtD, hl, ch0, ch1, tl, ar, aug, h3, sd, h4, h5]
        · refine ⟨some (rowD (r0 ++ tn)), some (rowD tail), .inl ?_⟩
          have h5 : ¬ (0 : Int) < ((r0 ++ tn).length : Int) := by omega
          simp [-List.length_append, F1, F2, N1, I1, G2, dS, k2, g2, len_row, sl, gtD, hl, ch0, ch1, tl, ar, aug, h3, sd, h4, h5, hs1]
    · have hl2 : ¬ (0 : Int) < (tail.length : Int) := by omega
      by_cases h3 : bS = true
      · refine ⟨some (rowD r0), some (rowD tail), .inl ?_⟩
        simp [F1, F2, N1, I1, G2, dS, k2, g2, len_row, sl, gtD, hl, hl2, h3, sd]
      · have h3 : bS = false := by simpa using h3
        by_cases h4 : 0 < r0.length
        · refine ⟨some (rowD r0), some (rowD tail), .inl ?_⟩
          simp [F1, F2, N1, I1, G2, dS, k2, g2, len_row, sl, gtD, hl, hl2, h3, sd, h4]
        · refine ⟨some (rowD r0), some (rowD tail), .inl ?_⟩
          simp [F1, F2, N1, I1, G2, dS, k2, g2, len_row, sl, gtD, hl, hl2, h3, sd, h4, hs1]
end
end PMl

set_option Elab.async false
set_option linter.all false
set_option maxRecDepth 100000
set_option maxHeartbeats 2000000
/-! the plain law of k25, 8: rise, whole. -/
namespace PMl
open PySem PM L2
section
variable {d s t : Nat} {st : Sto} {S T : KV} {l : Int} {f : Bool}
theorem acc_len {M : Nat} {acc : KV} (h : RiseOk S T M acc) : acc.length ≤ S.length + T.length := by
  have := nodup_le (l := keysR acc) (U := keysR S ++ keysR T) h.nd fun x hx => List.mem_append.mpr (h.ks x hx)
  rw [List.length_append] at this
  unfold keysR at this
  simpa using this
theorem rise_nil {M : Nat} : RiseOk S T M [] := ⟨List.nodup_nil, fun n h => by simp [keysR] at h, fun p h => by simp at h⟩
theorem rise_fold {M : Nat} {cs : List Int} (hS : ∀ p ∈ S, p.2.length ≤ M) (hT : ∀ p ∈ T, p.2.length ≤ M) (ks : List Int) : RiseOk S T M (riseP S T cs ks).1 := fold_ok hS hT ks rise_nil
theorem rise_snoc {cs : List Int} {ks : List Int} {i : Nat} {n : Int} (h : ks[i]? = some n) : riseP S T cs (ks.take (i + 1)) = riseStep S T cs (riseP S T cs (ks.take i)) n := by
  unfold riseP
  rw [List.take_add_one, h]
  simp [List.foldl_append]
theorem dres (h : DiskAt st d s t S T l f) (cs : List Int) (M : Nat) (hM : M ≤ 10000) (hS : ∀ p ∈ S, p.2.length ≤ M) (hT : ∀ p ∈ T, p.2.length ≤ M) (hk : ∀ n, n ∈ keysR S ∨ n ∈ keysR T → 0 ≤ n ∧ n < 60) (hz : S.length + T.length < 64) :
    ∃ st' s' t', m_Disk_rise [.loc d, .tup (cs.map .int)] st = .ok .non st' ∧ DiskAt st' d s' t' (riseP S T cs rng60).1 (riseP S T cs rng60).1 0 false ∧ Keep [d, s, t] st st' ∧ st.length ≤ s' ∧ st.length ≤ t' := by
  have hd := lt_get h.o
  have hN := rise_fold (cs := cs) hS hT
  rw [← rise_same hk]
  generalize hks : setI (keysR S ++ keysR T) = ks
  have mem : ∀ n ∈ ks, n ∈ keysR S ∨ n ∈ keysR T := fun n hn => by
    rw [← hks, keys_sorted hk, List.mem_filter, Bool.or_eq_true, getR_key, getR_key] at hn
    exact hn.2
  have al : ∀ i, (riseP S T cs (ks.take i)).1.length < 1000 := fun i => by
    have := acc_len (hN (ks.take i)); omega
  have loop : ∀ body : PM.S, body = _ → ∃ ρ' st', forGo (fun _ => True) (gN 4) body (ks.map .int) (envR d cs st.length 0 none none none) (st ++ [O.dct (kvD [])]) = .nx ρ' st' ∧ (∃ x y z, ρ' = envR d cs st.length (riseP S T cs (ks.take (0 + (ks.map D.int).length))).2 x y z ∧ st' = st ++ [O.dct (kvD (riseP S T cs (ks.take (0 + (ks.map D.int).length))).1)]) := fun body hb =>
    forGo_inv (fun i ρ s' => ∃ x y z, ρ = envR d cs st.length (riseP S T cs (ks.take i)).2 x y z ∧ s' = st ++ [O.dct (kvD (riseP S T cs (ks.take i)).1)]) (ks.map .int) 0 (fun _ _ _ _ => trivial) (fun i x hx ρ s' ⟨x0, y0, z0, e1, e2⟩ => by
      rw [List.getElem?_map] at hx
      obtain ⟨n, hn, rfl⟩ := Option.map_eq_some_iff.mp hx
      have hnm := mem n (List.mem_of_getElem? hn)
      rw [Nat.zero_add] at e1 e2 ⊢
      subst e1 e2
      obtain ⟨y', z', hb'⟩ := rise_body h cs M hM hS hT n hnm (riseP S T cs (ks.take i)).1 (al i) (riseP S T cs (ks.take i)).2 x0 y0 z0 body hb
      refine ⟨_, rfl, _, _, hb', some (.int n), y', z', ?_, ?_⟩
      · rw [rise_snoc hn]
      · rw [rise_snoc hn]) _ _ ⟨none, none, none, rfl, rfl⟩
  have hlen : ks.take (0 + (ks.map D.int).length) = ks := by rw [Nat.zero_add, List.length_map]; exact List.take_length
  simp only [hlen] at loop
  have nd := (hN ks).nd
  have hz3 := acc_len (hN ks)
  generalize hres : (riseP S T cs ks).1 = res at loop nd hz3 ⊢
  have q1 : (st ++ [O.dct (kvD res)])[st.length]? = some (.dct (kvD res)) := get_new
  have qd : (st ++ [O.dct (kvD res)])[d]? = some (dObj s t l f) := get_app h.o
  have fin : DiskAt ((st ++ [O.dct (kvD res), .dct (kvD res)]).set d (dObj (st.length + 1) st.length 0 false)) d (st.length + 1) st.length res res 0 false := by
    refine ⟨List.getElem?_set_self (by simp; omega), ?_, ?_, ⟨by omega, by omega, by omega⟩⟩
    · rw [get_set_ne (by omega), List.getElem?_append_right (by omega)]; simp
    · rw [get_set_ne (by omega)]; exact get_new
  refine ⟨_, st.length + 1, st.length, ?_, fin, keep_app.trans (keep_set (by simp)), by omega, Nat.le_refl _⟩
  show gcR st (outR (b_Disk_rise [some (.loc d), some (.tup (cs.map .int)), none, none, none, none, none] st)) = _
  have e : b_Disk_rise [some (.loc d), some (.tup (cs.map .int)), none, none, none, none, none] st = b_Disk_rise [some (.loc d), some (.tup (cs.map .int)), none, none, none, none, none] st ∧ ∃ ρ', b_Disk_rise [some (.loc d), some (.tup (cs.map .int)), none, none, none, none, none] st = .nx ρ' ((st ++ [O.dct (kvD res), .dct (kvD res)]).set d (dObj (st.length + 1) st.length 0 false)) := by
    refine ⟨rfl, ?_⟩
    have qs0 : (st ++ [O.dct (kvD [])])[s]? = some (.dct (kvD S)) := get_app h.hs
    have qt0 : (st ++ [O.dct (kvD [])])[t]? = some (.dct (kvD T)) := get_app h.ht
    have qd0 : (st ++ [O.dct (kvD [])])[d]? = some (dObj s t l f) := get_app h.o
    have dS : dctD (.loc s) (st ++ [O.dct (kvD [])]) = .ok (kvD S) (st ++ [O.dct (kvD [])]) := by simp only [dctD, qs0]
    have dT : dctD (.loc t) (st ++ [O.dct (kvD [])]) = .ok (kvD T) (st ++ [O.dct (kvD [])]) := by simp only [dctD, qt0]
    have it : cItl (cS1 sortSetS (cCatL (cKeys (cB1 (fldOf [0] "_sure") (cVar 0))) (cKeys (cB1 (fldOf [0] "_there") (cVar 0))))) (envR d cs st.length 0 none none none) (st ++ [O.dct (kvD [])]) = .ok ⟨fun _ => True, ks.map .int⟩ (st ++ [O.dct (kvD [])]) := by
      have hl : (keysR S).length + (keysR T).length < 64 := by unfold keysR; rw [List.length_map, List.length_map]; exact hz
      have hl2 : (keysR S).length + (keysR T).length ≤ sizeLine := Nat.le_trans (Nat.le_of_lt hl) (by decide)
      have hc : catL ((keysR S).map D.int) ((keysR T).map D.int) (st ++ [O.dct (kvD [])]) = .ok ((keysR S ++ keysR T).map D.int) (st ++ [O.dct (kvD [])]) := by
        simp [catL, hl2]
      have hs : sortSetS ((keysR S ++ keysR T).map D.int) (st ++ [O.dct (kvD [])]) = .ok (ks.map D.int) (st ++ [O.dct (kvD [])]) := by
        unfold sortSetS
        rw [intsD_ints]
        dsimp only
        rw [if_pos (by rw [List.length_append]; exact hl), hks]
      simp [-List.map_append, fld1 qd0, fld2 qd0, dS, dT, keysD_kv, hc, hs]
    obtain ⟨ρ', st', e1, x, y, z, e2, e3⟩ := loop _ rfl
    rw [e2, e3] at e1
    have qd2 : ∀ o, ((st ++ [O.dct (kvD res)]).set d o)[d]? = some o := fun o => List.getElem?_set_self (by simp; omega)
    have q3 : ((st ++ [O.dct (kvD res)]).set d (dObj s st.length l f))[st.length]? = some (.dct (kvD res)) := by rw [get_set_ne (by omega)]; exact q1
    have c := copy_ok (p := cVar 2) (ρ := envR d cs st.length (riseP S T cs ks).2 x y z) (i := 4) (by omega) q3 nd (by simp) (by simp) (by simp) (fun k => by simp)
    have sz : ((st ++ [O.dct (kvD res)]).set d (dObj s st.length l f)) ++ [O.dct (kvD res)] = (st ++ [O.dct (kvD res), .dct (kvD res)]).set d (dObj s st.length l f) := by
      rw [show st ++ [O.dct (kvD res), O.dct (kvD res)] = (st ++ [O.dct (kvD res)]) ++ [O.dct (kvD res)] by simp]
      rw [List.set_append_left _ _ (show d < (st ++ [O.dct (kvD res)]).length by simp; omega)]
    have qd4 : ∀ o, ((st ++ [O.dct (kvD res), .dct (kvD res)]).set d o)[d]? = some o := fun o => List.getElem?_set_self (by simp; omega)
    refine ⟨envR d cs st.length (riseP S T cs ks).2 x y z, ?_⟩
    unfold b_Disk_rise
    rw [sSeq_ap, show sSet 2 (cNewD cD0) [some (D.loc d), some (.tup (cs.map .int)), none, none, none, none, none] st = .nx [some (D.loc d), some (.tup (cs.map .int)), some (.loc st.length), none, none, none, none] (st ++ [O.dct (kvD [])]) from rfl]
    dsimp only
    rw [sSeq_ap, show sSet 3 (cC (.int 0)) [some (D.loc d), some (.tup (cs.map .int)), some (.loc st.length), none, none, none, none] (st ++ [O.dct (kvD [])]) = .nx (envR d cs st.length 0 none none none) (st ++ [O.dct (kvD [])]) from rfl]
    dsimp only
    rw [sSeq_ap, sFor_ap, it, fE_ok]
    dsimp only
    rw [e1]
    dsimp only
    have w1 : sFldD [0] "_there" (cVar 0) (cVar 2) (envR d cs st.length (riseP S T cs ks).2 x y z) (st ++ [O.dct (kvD res)]) = .nx (envR d cs st.length (riseP S T cs ks).2 x y z) ((st ++ [O.dct (kvD res)]).set d (dObj s st.length l f)) := by
      simp [qd]
    rw [sSeq_ap, w1]
    dsimp only
    have w2 : sFldD [0] "_sure" (cVar 0) (cNewD (lockD (cVar 2) (cDComp (cKeysI (cVar 2)) (.one 4) tYesD (cVar 4) (cOp2 getD (cVar 2) (cVar 4)) [4]))) (envR d cs st.length (riseP S T cs ks).2 x y z) ((st ++ [O.dct (kvD res)]).set d (dObj s st.length l f)) = .nx (envR d cs st.length (riseP S T cs ks).2 x y z) ((st ++ [O.dct (kvD res), .dct (kvD res)]).set d (dObj (st.length + 1) st.length l f)) := by
      rw [sFldD_ap, cNewD_ap, c]
      simp only [R.bind_ok, fE_ok, sz]
      simp [qd4]
    rw [sSeq_ap, w2]
    dsimp only
    simp [qd4]
  obtain ⟨_, ρ', e⟩ := e
  rw [e]
  refine gcR_new hd ?_
  rw [fin.o, h.o]
  intro z
  have z := Option.some.inj z
  simp [diskF] at z
  have := lt_get h.hs
  omega
end
end PMl

set_option Elab.async false
set_option linter.all false
set_option maxRecDepth 100000
set_option maxHeartbeats 2000000
/-! the plain law of k25, 9: the model's rise. -/
namespace PMl
open PySem PM L2
def pad (cs : List Int) : List Int := cs ++ List.replicate 20 0
theorem pad_get {cs : List Int} {i : Nat} (h : i < cs.length + 20) : (pad cs)[i]? = some (cs.getD i 0) := by
  unfold pad
  rw [List.getD_eq_getElem?_getD]
  by_cases hi : i < cs.length
  · rw [List.getElem?_append_left hi, List.getElem?_eq_getElem hi]; rfl
  · rw [List.getElem?_append_right (by omega), List.getElem?_replicate, if_pos (by omega), List.getElem?_eq_none (by omega)]; rfl
theorem pad_at {cs : List Int} {at_ k : Nat} (h : at_ + k < cs.length + 20) : (((pad cs).drop at_).map D.int)[k]? = some (.int (cs.getD (at_ + k) 0)) := by
  rw [List.getElem?_map, List.getElem?_drop, pad_get h]; rfl
section
variable {d s t : Nat} {st : Sto} {S T : KV} {l : Int} {f : Bool}
structure LrAt (st s' : Sto) (a : Nat) (acc : KV) (left : List Int) : Prop where
  le : st.length + 2 ≤ s'.length
  old : ∀ (n : Nat) (o : O), st[n]? = some o → s'[n]? = some o
  ac : s'[st.length + 1]? = some (.dct (kvD acc))
  lf : s'[a]? = some (.lst (left.map D.int))
  ne : a ≠ st.length + 1
abbrev envM (d : Nat) (cs : List Int) (a N : Nat) (x y z : Option D) : PM.Env := [some (.loc d), some (.tup (cs.map .int)), some (.loc a), some (.loc (N + 1)), x, y, z]
theorem LrAt.put {s' : Sto} {a : Nat} {acc acc' : KV} {left : List Int} (h : LrAt st s' a acc left) : LrAt st (s'.set (st.length + 1) (.dct (kvD acc'))) a acc' left := by
  refine ⟨by rw [List.length_set]; exact h.le, fun n o e => ?_, get_set_eq h.ac, ?_, h.ne⟩
  · have := lt_get e
    rw [get_set_ne (by omega)]; exact h.old n o e
  · rw [get_set_ne h.ne]; exact h.lf
theorem LrAt.cut {s' : Sto} {a : Nat} {acc : KV} {left left' : List Int} (h : LrAt st s' a acc left) : LrAt st (s' ++ [O.lst (left'.map D.int)]) s'.length acc left' :=
  ⟨by have := h.le; simp; omega, fun n o e => get_app (h.old n o e), get_app h.ac, get_new, by have := h.le; omega⟩
theorem lslice {s' : Sto} {a : Nat} {left : List Int} (h : s'[a]? = some (.lst (left.map D.int))) (k : Nat) : sliceD (.loc a) (some (k : Int)) none s' = .ok (.loc s'.length) (s' ++ [O.lst ((left.drop k).map D.int)]) := by
  simp only [sliceD, h, cut_from (Int.natCast_nonneg k), Int.toNat_natCast, List.map_drop]
noncomputable abbrev bodyM : PM.S := (sIf (tAndD (cTst (cOp2 inD (cVar 4) (cOp2 getD (cVar 0) (cC (.str "sure"))))) (cTst (cOp2 notInD (cVar 4) (cOp2 getD (cVar 0) (cC (.str "there")))))) (sSeq (sIf (cTst (cOp2 eqD (cOp2 modD (cB1 intD (cOp2 getD (cVar 2) (cC (.int 0)))) (cC (.int 2))) (cC (.int 1)))) (sSub (cVar 3) (cVar 4) (cOp2 getD (cOp2 getD (cVar 0) (cC (.str "sure"))) (cVar 4))) sNext)
  (sSet 2 (cSlice (cVar 2) (cPart (cC (.int 1))) cNoPart))) (sIf (cTst (cOp2 inD (cVar 4) (cOp2 getD (cVar 0) (cC (.str "there"))))) (sSeq (sSet 5 (cGet2 (cOp2 getD (cVar 0) (cC (.str "sure"))) (cVar 4) (cTup [])))
  (sSeq (sSet 6 (cSlice (cOp2 getD (cOp2 getD (cVar 0) (cC (.str "there"))) (cVar 4)) (cPart (cB1 lenD (cVar 5))) cNoPart))
  (sSeq (sIf (cTst (cOp2 gtD (cB1 lenD (cVar 6)) (cC (.int 0)))) (sSeq (sSet 5 (cOp2 addD (cVar 5) (cCall m__law_torn [(cVar 6), (cOp2 getD (cVar 2) (cC (.int 0))), (cOp2 getD (cVar 2) (cC (.int 1)))])))
  (sSet 2 (cSlice (cVar 2) (cPart (cC (.int 2))) cNoPart))) sNext)
  (sIf (tOrD (cTst (cOp2 inD (cVar 4) (cOp2 getD (cVar 0) (cC (.str "sure"))))) (cTst (cOp2 gtD (cB1 lenD (cVar 5)) (cC (.int 0))))) (sSub (cVar 3) (cVar 4) (cVar 5)) sNext)))) sNext))
theorem mrise_body (h : ModelAt st d s t S T l f) (cs : List Int) (M : Nat) (hM : M ≤ 10000) (hS : ∀ p ∈ S, p.2.length ≤ M) (hT : ∀ p ∈ T, p.2.length ≤ M) (n : Int) (acc : KV) (hz : acc.length < 1000) (at_ : Nat) (hat : at_ + cost S T n ≤ 15) {s1 : Sto} {a : Nat} (L : LrAt st s1 a acc ((pad cs).drop at_)) (y z : Option D) :
    ∃ a' y' z' s2, bodyM (envM d cs a st.length (some (.int n)) y z) s1 = .nx (envM d cs a' st.length (some (.int n)) y' z') s2 ∧ LrAt st s2 a' (riseStep S T cs (acc, at_) n).1 ((pad cs).drop (riseStep S T cs (acc, at_) n).2) := by
  have ho := L.old _ _ h.o
  have hs := L.old _ _ h.hs
  have ht := L.old _ _ h.ht
  have e1 : ∀ (i : Int) s, modD (.int i) (.int 2) s = .ok (.int (i.fmod 2)) s := fun i s => modD_int s (by decide)
  have sd : ∀ (r : List Int) {s2 : Sto} {a : Nat} {left : List Int}, LrAt st s2 a acc left → setD (.loc (st.length + 1)) (.int n) (rowD r) s2 = some (s2.set (st.length + 1) (.dct (kvD (putR acc n r)))) := fun r s2 a left Lr => put_dct Lr.ac hz
  have dS : dctD (.loc s) s1 = .ok (kvD S) s1 := by simp only [dctD, hs]
  have lS := row_len hS n
  have lT := row_len hT n
  have g2 := get2_ok (T := S) n
  have k2 := keyD_int n
  have F1 := mg1 ho
  have F2 := mg2 ho
  have N1 := notIn_dct (n := n) ht
  have I2 := in_dct (n := n) ht
  have I1 := in_dct (n := n) hs
  have G1 := get_or (n := n) hs
  have G2 := get_or (n := n) ht
  have X0 : at_ < cs.length + 20 → getD (.loc a) (.int 0) s1 = .ok (.int (cs.getD at_ 0)) s1 := fun hl => by
    rw [getD_lst L.lf]; exact atD_nat (i := 0) (pad_at (k := 0) hl)
  have X1 : at_ + 1 < cs.length + 20 → getD (.loc a) (.int 1) s1 = .ok (.int (cs.getD (at_ + 1) 0)) s1 := fun hl => by
    rw [getD_lst L.lf]; exact atD_nat (i := 1) (pad_at (k := 1) hl)
  have Y1 : sliceD (.loc a) (some 1) none s1 = .ok (.loc s1.length) (s1 ++ [O.lst (((pad cs).drop (at_ + 1)).map D.int)]) := by
    have := lslice L.lf 1
    rw [List.drop_drop] at this
    exact this
  have Y2 : sliceD (.loc a) (some 2) none s1 = .ok (.loc s1.length) (s1 ++ [O.lst (((pad cs).drop (at_ + 2)).map D.int)]) := by
    have := lslice L.lf 2
    rw [List.drop_drop] at this
    exact this
  have lS1 : LrAt st (s1 ++ [O.lst (((pad cs).drop (at_ + 1)).map D.int)]) s1.length acc ((pad cs).drop (at_ + 1)) := L.cut
  have lS2 : LrAt st (s1 ++ [O.lst (((pad cs).drop (at_ + 2)).map D.int)]) s1.length acc ((pad cs).drop (at_ + 2)) := L.cut
  have ho2 := lS2.old _ _ h.o
  have hs2 := lS2.old _ _ h.hs
  have F1' := mg1 ho2
  have I1' := in_dct (n := n) hs2
  unfold cost tailR at hat
  unfold riseStep tailR
  dsimp only
  generalize cs.getD at_ 0 = A at X0 ⊢
  generalize cs.getD (at_ + 1) 0 = B at X1 ⊢
  generalize (getR S n).isSome = bS at I1 I1' G1 hat ⊢
  generalize (getR T n).isSome = bT at N1 G2 I2 hat ⊢
  generalize (getR S n).getD [] = r0 at G1 g2 lS hat ⊢
  generalize (getR T n).getD [] = row at G2 lT hat ⊢
  have sl := slice_row row r0.length
  have tl : ∀ s, m__law_torn [rowD (row.drop r0.length), .int A, .int B] s = .ok (rowD (tornP (row.drop r0.length) A B)) s := fun s => lawtorn_ok (row.drop r0.length) A B s (by rw [List.length_drop]; omega)
  have tlen := torn_len (row.drop r0.length) A B
  have ar : ∀ s, addD (rowD r0) (rowD (tornP (row.drop r0.length) A B)) s = .ok (rowD (r0 ++ tornP (row.drop r0.length) A B)) s := fun s => add_row (by rw [List.length_drop] at tlen; omega) s
  generalize row.drop r0.length = tail at sl tl tlen ar hat ⊢
  generalize tornP tail A B = tn at tl ar ⊢
  cases bT with
  | false =>
    cases bS with
    | false =>
      refine ⟨a, y, z, s1, ?_, ?_⟩
      · simp [-List.map_drop, F1, F2, I1, I2]
      · simpa using L
    | true =>
      have G1 := G1 rfl
      have X0 := X0 (by simp at hat; omega)
      by_cases hc : A.fmod 2 = 1
      · have L2 := (L.put (acc' := putR acc n r0)).cut (left' := (pad cs).drop (at_ + 1))
        have Y1' : sliceD (.loc a) (some 1) none (s1.set (st.length + 1) (.dct (kvD (putR acc n r0)))) = .ok (.loc s1.length) (s1.set (st.length + 1) (.dct (kvD (putR acc n r0))) ++ [O.lst (((pad cs).drop (at_ + 1)).map D.int)]) := by
          have := lslice (L.put (acc' := putR acc n r0)).lf 1
          rw [List.drop_drop, List.length_set] at this
          exact this
        rw [List.length_set] at L2
        refine ⟨s1.length, y, z, _, ?_, by simpa [-List.map_drop, hc] using L2⟩
        simp [-List.map_drop, F1, F2, N1, I1, G1, X0, e1, hc, sd r0 L, Y1']
      · refine ⟨s1.length, y, z, _, ?_, by simpa [-List.map_drop, hc] using lS1⟩
        simp [-List.map_drop, F1, F2, N1, I1, G1, X0, e1, hc, Y1]
  | true =>
    have G2 := G2 rfl
    by_cases hl : 0 < tail.length
    · have X0 := X0 (by simp [hl] at hat; omega)
      have X1 := X1 (by simp [hl] at hat; omega)
      by_cases h3 : bS = true
      · refine ⟨s1.length, some (rowD (r0 ++ tn)), some (rowD tail), _, ?_, by simpa [-List.map_drop, hl, h3] using lS2.put (acc' := putR acc n (r0 ++ tn))⟩
        simp [-List.map_drop, F1, F2, N1, I1, I2, G2, dS, k2, g2, len_row, sl, gtD, hl, X0, X1, tl, ar, h3, Y2, F1', I1', sd (r0 ++ tn) lS2]
      · have h3 : bS = false := by simpa using h3
        by_cases h4 : 0 < (r0 ++ tn).length
        · have h5 : (0 : Int) < ((r0 ++ tn).length : Int) := by omega
          refine ⟨s1.length, some (rowD (r0 ++ tn)), some (rowD tail), _, ?_, by simpa [-List.map_drop, -List.length_append, hl, h3, h4] using lS2.put (acc' := putR acc n (r0 ++ tn))⟩
          simp [-List.map_drop, -List.length_append, F1, F2, N1, I1, I2, G2, dS, k2, g2, len_row, sl, gtD, hl, X0, X1, tl, ar, h3, h5, h4, Y2, F1', I1', sd (r0 ++ tn) lS2]
        · have h5 : ¬ (0 : Int) < ((r0 ++ tn).length : Int) := by omega
          refine ⟨s1.length, some (rowD (r0 ++ tn)), some (rowD tail), _, ?_, by simpa [-List.map_drop, -List.length_append, hl, h3, h4] using lS2⟩
          simp [-List.map_drop, -List.length_append, F1, F2, N1, I1, I2, G2, dS, k2, g2, len_row, sl, gtD, hl, X0, X1, tl, ar, h3, h5, h4, Y2, F1', I1']
    · have hl2 : ¬ (0 : Int) < (tail.length : Int) := by omega
      by_cases h3 : bS = true
      · refine ⟨a, some (rowD r0), some (rowD tail), _, ?_, by simpa [-List.map_drop, hl, h3] using L.put (acc' := putR acc n r0)⟩
        simp [-List.map_drop, F1, F2, N1, I1, I2, G2, dS, k2, g2, len_row, sl, gtD, hl, hl2, h3, sd r0 L]
      · have h3 : bS = false := by simpa using h3
        by_cases h4 : 0 < r0.length
        · refine ⟨a, some (rowD r0), some (rowD tail), _, ?_, by simpa [-List.map_drop, hl, h3, h4] using L.put (acc' := putR acc n r0)⟩
          simp [-List.map_drop, F1, F2, N1, I1, I2, G2, dS, k2, g2, len_row, sl, gtD, hl, hl2, h3, h4, sd r0 L]
        · refine ⟨a, some (rowD r0), some (rowD tail), s1, ?_, by simpa [-List.map_drop, hl, h3, h4] using L⟩
          simp [-List.map_drop, F1, F2, N1, I1, I2, G2, dS, k2, g2, len_row, sl, gtD, hl, hl2, h3, h4]
end
end PMl

set_option Elab.async false
set_option linter.all false
set_option maxRecDepth 100000
set_option maxHeartbeats 2000000
/-! the plain law of k25, 10: the model's rise, whole; what is told of a disk. -/
namespace PMl
open PySem PM L2
section
variable {d s t : Nat} {st : Sto} {S T : KV} {l : Int} {f : Bool}
theorem rng_D : rngD 0 60 = rng60.map D.int := by
  unfold rngD rng60
  rw [List.map_map]
  apply List.map_congr_left
  intro i _
  simp
theorem mrise_ok (h : ModelAt st d s t S T l f) (cs : List Int) (hcs : cs.length ≤ 1000) (M : Nat) (hM : M ≤ 10000) (hS : ∀ p ∈ S, p.2.length ≤ M) (hT : ∀ p ∈ T, p.2.length ≤ M) (hz : S.length + T.length < 64)
    {A B : List Int} (hA : ∀ n, (getR S n).isSome = true → (getR T n).isSome = false → n ∈ A) (hB : ∀ n, 0 < (tailR S T n).length → n ∈ B) (la : A.length ≤ 5) (lb : B.length ≤ 5) :
    ∃ st' s' t', m__law_rise [.loc d, .tup (cs.map .int)] st = .ok .non st' ∧ ModelAt st' d s' t' (riseP S T cs rng60).1 (riseP S T cs rng60).1 0 false ∧ Keep [d, s, t] st st' ∧ st.length ≤ s' ∧ st.length ≤ t' := by
  have hd := lt_get h.o
  have hN := rise_fold (cs := cs) hS hT
  have al : ∀ i, (riseP S T cs (rng60.take i)).1.length < 1000 := fun i => by
    have := acc_len (hN (rng60.take i)); omega
  have atl : ∀ i, (riseP S T cs (rng60.take i)).2 ≤ 15 := fun i => by
    unfold riseP
    rw [fold_at, Nat.zero_add]
    exact cost_small hA hB ((rng_sorted.imp fun h => Int.ne_of_lt h).sublist (List.take_sublist i rng60)) la lb
  have L0 : LrAt st (st ++ [O.lst ((pad cs).map D.int), .dct (kvD [])]) st.length [] (pad cs) := by
    refine ⟨by simp, fun n o e => get_app e, ?_, get_new, by omega⟩
    rw [List.getElem?_append_right (Nat.le_succ _)]
    simp
  have loop : ∃ ρ' st', forGo (fun _ => True) (gN 4) bodyM (rng60.map .int) (envM d cs st.length st.length none none none) (st ++ [O.lst ((pad cs).map D.int), .dct (kvD [])]) = .nx ρ' st' ∧ (∃ a x y z, ρ' = envM d cs a st.length x y z ∧ LrAt st st' a (riseP S T cs (rng60.take (0 + (rng60.map D.int).length))).1 ((pad cs).drop (riseP S T cs (rng60.take (0 + (rng60.map D.int).length))).2)) :=
    forGo_inv (fun i ρ s' => ∃ a x y z, ρ = envM d cs a st.length x y z ∧ LrAt st s' a (riseP S T cs (rng60.take i)).1 ((pad cs).drop (riseP S T cs (rng60.take i)).2)) (rng60.map .int) 0 (fun _ _ _ _ => trivial) (fun i x hx ρ s' ⟨a, x0, y0, z0, e1, e2⟩ => by
      rw [List.getElem?_map] at hx
      obtain ⟨n, hn, rfl⟩ := Option.map_eq_some_iff.mp hx
      simp only [Nat.zero_add] at e2 ⊢
      subst e1
      have hc : (riseP S T cs (rng60.take i)).2 + cost S T n ≤ 15 := by
        have := atl (i + 1)
        rw [rise_snoc hn, step_at] at this
        exact this
      obtain ⟨a', y', z', s2, hb', L'⟩ := mrise_body h cs M hM hS hT n (riseP S T cs (rng60.take i)).1 (al i) (riseP S T cs (rng60.take i)).2 hc e2 y0 z0
      refine ⟨_, rfl, _, _, .inl hb', a', some (.int n), y', z', rfl, ?_⟩
      rw [rise_snoc hn]
      exact L') _ _ ⟨st.length, none, none, none, rfl, by simpa [riseP] using L0⟩
  obtain ⟨ρ', s1, e1, a, x, y, z, e2, L⟩ := loop
  subst e2
  have hlen : rng60.take (0 + (rng60.map D.int).length) = rng60 := by rw [Nat.zero_add, List.length_map]; exact List.take_length
  rw [hlen] at L
  have nd := (hN rng60).nd
  have hz3 := acc_len (hN rng60)
  generalize (riseP S T cs rng60).1 = res at L nd hz3 ⊢
  have ho := L.old _ _ h.o
  have hle := L.le
  have q1 : ∀ o, (s1.set d o)[d]? = some o := fun o => List.getElem?_set_self (by omega)
  have q3 : ∀ o, (s1.set d o)[st.length + 1]? = some (.dct (kvD res)) := fun o => by rw [get_set_ne (by omega)]; exact L.ac
  have q4 : ∀ o o', (s1.set d o ++ [o'])[d]? = some o := fun o o' => get_app (q1 o)
  have q5 : ∀ (o o' u : O), ((s1.set d o ++ [o']).set d u)[d]? = some u := fun o o' u => get_set_eq (q4 o o')
  have fin : ModelAt ((s1.set d (mObj (st.length + 1) t l f) ++ [O.dct (kvD res)]).set d (mObj (st.length + 1) s1.length 0 false)) d (st.length + 1) s1.length res res 0 false := by
    refine ⟨q5 _ _ _, ?_, ?_, ⟨by omega, by omega, by omega⟩⟩
    · rw [get_set_ne (by omega)]; exact get_app (q3 _)
    · rw [get_set_ne (by omega)]
      have e : s1.length = (s1.set d (mObj (st.length + 1) t l f)).length := by rw [List.length_set]
      rw [show (s1.set d (mObj (st.length + 1) t l f) ++ [O.dct (kvD res)])[s1.length]? = (s1.set d (mObj (st.length + 1) t l f) ++ [O.dct (kvD res)])[(s1.set d (mObj (st.length + 1) t l f)).length]? by rw [List.length_set]]
      exact get_new
  have k1 : Keep [d, s, t] st s1 := ⟨by omega, fun n o e _ => L.old n o e⟩
  refine ⟨_, st.length + 1, s1.length, ?_, fin, ((k1.trans (keep_set (by simp))).trans keep_app).trans (keep_set (by simp)), by omega, by omega⟩
  have e : b__law_rise [some (.loc d), some (.tup (cs.map .int)), none, none, none, none, none] st = .nx (envM d cs a st.length x y z) ((s1.set d (mObj (st.length + 1) t l f) ++ [O.dct (kvD res)]).set d (mObj (st.length + 1) s1.length 0 false)) := by
    have c1 : catL (cs.map D.int) ((List.replicate (20 : Int).toNat [D.int 0]).flatten) st = .ok ((pad cs).map D.int) st := by
      unfold catL
      rw [if_pos (by
        rw [List.length_map]
        have : ((List.replicate (20 : Int).toNat [D.int 0]).flatten).length = 20 := by decide
        rw [this]
        exact Nat.le_trans (show cs.length + 20 ≤ 1020 by omega) (by decide))]
      unfold pad
      rw [List.map_append]
      rfl
    unfold b__law_rise
    have w0 : sSet 2 (cNew (cCatL (cS1 lstS (cSeq (cVar 1))) (cRepL (cLst [(cC (.int 0))]) (cC (.int 20))))) [some (D.loc d), some (.tup (cs.map .int)), none, none, none, none, none] st = .nx [some (D.loc d), some (.tup (cs.map .int)), some (.loc st.length), none, none, none, none] (st ++ [O.lst ((pad cs).map D.int)]) := by
      have sq : ∀ s : Sto, seqD (.tup (cs.map D.int)) s = .ok (cs.map D.int) s := fun s => rfl
      have rp : cRepL (cLst [(cC (.int 0))]) (cC (.int 20)) [some (D.loc d), some (.tup (cs.map .int)), none, none, none, none, none] st = .ok ((List.replicate (20 : Int).toNat [D.int 0]).flatten) st := by
        simp only [cRepL_ap, cLst_ap, cArgs_cons, cArgs_nil, cC_ap, R.bind_ok]
        rw [if_pos ⟨by decide, by decide, by decide⟩]
      rw [sSet_ap, cNew_ap, cCatL_ap]
      simp only [cS1_ap, cSeq_ap, cVar_ap, List.getElem?_cons_succ, List.getElem?_cons_zero, R.bind_ok, sq, lstS, rp, c1, fE_ok]
      rfl
    rw [sSeq_ap, w0]
    dsimp only
    have w1 : sSet 3 (cNewD cD0) [some (D.loc d), some (.tup (cs.map .int)), some (.loc st.length), none, none, none, none] (st ++ [O.lst ((pad cs).map D.int)]) = .nx (envM d cs st.length st.length none none none) (st ++ [O.lst ((pad cs).map D.int), .dct (kvD [])]) := by
      simp [kvD]
    rw [sSeq_ap, w1]
    dsimp only
    rw [sSeq_ap, sFor_ap]
    have it : cRng1 (cC (.int 60)) (envM d cs st.length st.length none none none) (st ++ [O.lst ((pad cs).map D.int), .dct (kvD [])]) = .ok ⟨fun _ => True, rng60.map .int⟩ (st ++ [O.lst ((pad cs).map D.int), .dct (kvD [])]) := by
      rw [← rng_D]
      simp only [cRng1_ap, cC_ap, R.bind_ok, rng1D]
      rw [if_pos ⟨by decide, by decide⟩]
      rfl
    rw [it, fE_ok]
    dsimp only
    rw [e1]
    dsimp only
    have w2 : sSub (cVar 0) (cC (.str "sure")) (cVar 3) (envM d cs a st.length x y z) s1 = .nx (envM d cs a st.length x y z) (s1.set d (mObj (st.length + 1) t l f)) := by
      simp [ms1 ho]
    rw [sSeq_ap, w2]
    dsimp only
    have dT : dctD (.loc (st.length + 1)) (s1.set d (mObj (st.length + 1) t l f)) = .ok (kvD res) (s1.set d (mObj (st.length + 1) t l f)) := by simp only [dctD, q3]
    have w3 : sSub (cVar 0) (cC (.str "there")) (cNewD (cDict (cVar 3))) (envM d cs a st.length x y z) (s1.set d (mObj (st.length + 1) t l f)) = .nx (envM d cs a st.length x y z) ((s1.set d (mObj (st.length + 1) t l f) ++ [O.dct (kvD res)]).set d (mObj (st.length + 1) s1.length l f)) := by
      simp [dT, ms2 (q4 _ _)]
    rw [sSeq_ap, w3]
    dsimp only
    simp [ms3 (q5 _ _ _), ms4 (q5 _ _ _)]
  show gcR st (outR (b__law_rise [some (.loc d), some (.tup (cs.map .int)), none, none, none, none, none] st)) = _
  rw [e]
  exact gc_mdl h fin.o (.inl (by have := lt_get h.hs; omega))
end
end PMl

set_option Elab.async false
set_option linter.all false
set_option maxRecDepth 100000
set_option maxHeartbeats 2000000
/-! the plain law of k25, 11: what is told of a disk is right. -/
namespace PMl
open PySem PM L2
theorem isi_tup (xs : List D) (c : Ty) (st : Sto) : isiD c (.tup xs) st = .ok (.bl (Ty.sub .tuple c)) st := rfl
theorem isi_int (i : Int) (c : Ty) (st : Sto) : isiD c (.int i) st = .ok (.bl (Ty.sub .int c)) st := rfl
theorem isi_bl (i : Bool) (c : Ty) (st : Sto) : isiD c (.bl i) st = .ok (.bl (Ty.sub .bool c)) st := rfl
theorem sub1 : Ty.sub .int .tuple = false := by decide
theorem sub2 : Ty.sub .int .str = false := by decide
theorem sub3 : Ty.sub .int .int = true := by decide
theorem sub4 : Ty.sub .int .bool = false := by decide
theorem sub5 : Ty.sub .tuple .tuple = true := by decide
theorem sub6 : Ty.sub .bool .bool = true := by decide
theorem isN_int (i : Int) (st : Sto) : isND (.int i) .non st = .ok (.bl false) st := rfl
theorem same_int (k : Nat) (i : Int) (st : Sto) : m__law_is_same (k + 1) [.int i, .int i] st = .ok (.bl true) st := by
  show gcR st (outR (b__law_is_same (m__law_is_same k) [some (.int i), some (.int i), none] st)) = _
  unfold b__law_is_same
  simp [isi_int, sub1, sub2, sub3, sub4, truD, isN_int, outR, gcR_id]
theorem bools_true : ∀ n : Nat, boolsD (List.replicate n (D.bl true)) = some (List.replicate n true)
  | 0 => rfl
  | n + 1 => by
    have := bools_true n
    rw [List.replicate_succ, List.replicate_succ]
    show (boolsD (List.replicate n (D.bl true))).map (true :: ·) = _
    rw [this]; rfl
theorem row_get {r : List Int} {i : Nat} (hi : i < r.length) (st : Sto) : getD (rowD r) (.int (i : Int)) st = .ok (.int (r.getD i 0)) st := by
  unfold rowD
  rw [getD_tup, atD_nat]
  rw [List.getElem?_map, List.getElem?_eq_getElem hi, List.getD_eq_getElem?_getD, List.getElem?_eq_getElem hi]; rfl
theorem rng_len (n : Nat) : (rngD 0 n).length = n := by simp [rngD]
theorem rng_get {n : Nat} {x : D} (h : x ∈ rngD 0 n) : ∃ i : Nat, i < n ∧ x = .int (i : Int) := by
  unfold rngD at h
  obtain ⟨i, hi, e⟩ := List.mem_map.mp h
  exact ⟨i, List.mem_range.mp hi, by rw [← e, Int.zero_add]⟩
abbrev envS (r : List Int) (x : Option D) : PM.Env := [some (rowD r), some (rowD r), x]
theorem sIf_true {t : ET} {a b : PM.S} {ρ : PM.Env} {st st' : Sto} (h : t ρ st = .ok true st') : sIf t a b ρ st = a ρ st' := by rw [sIf_ap, h]; rfl
theorem sSeq_rt {a b : PM.S} {ρ : PM.Env} {st st' : Sto} {d : D} (h : a ρ st = .rt d st') : sSeq a b ρ st = .rt d st' := by rw [sSeq_ap, h]
theorem sSeq_nx {a b : PM.S} {ρ ρ' : PM.Env} {st st' : Sto} (h : a ρ st = .nx ρ' st') : sSeq a b ρ st = b ρ' st' := by rw [sSeq_ap, h]
section
variable {m : M} (hm : ∀ (v : Int) (st : Sto), m [.int v, .int v] st = .ok (.bl true) st)
include hm
theorem same_el (r : List Int) (i : Nat) (hi : i < r.length) (st : Sto) : cCall m [(cOp2 getD (cVar 0) (cVar 2)), (cOp2 getD (cVar 1) (cVar 2))] (envS r (some (.int (i : Int)))) st = .ok (.bl true) st := by
  have g := row_get hi st
  generalize r.getD i 0 = v at g
  simp [g, hm]
theorem same_go (r : List Int) (st : Sto) : compGo (fun _ => True) (.one 2) tYesD (cCall m [(cOp2 getD (cVar 0) (cVar 2)), (cOp2 getD (cVar 1) (cVar 2))]) (wipeD (envS r none) [2]) (rngD 0 r.length) st = .ok (List.replicate r.length (.bl true)) st := by
  rw [compGo_pure (fun _ => true) (fun _ => .bl true) trivial _ fun x hx => ?_]
  · rw [List.filter_eq_self.mpr fun _ _ => rfl, List.map_const', rng_len]
  · obtain ⟨i, hi, e⟩ := rng_get hx
    subst e
    exact ⟨envS r (some (.int (i : Int))), rfl, rfl, fun _ => same_el hm r i hi st⟩
omit hm in
theorem same_it (r : List Int) (hz : r.length ≤ 10000) (st : Sto) : cRng1 (cB1 lenD (cVar 1)) (envS r none) st = .ok ⟨fun _ => True, rngD 0 r.length⟩ st := by
  have e : cB1 lenD (cVar 1) (envS r none) st = .ok (.int r.length) st := by
    rw [cB1_ap, cVar_ap]
    exact len_row r st
  rw [cRng1_ap, e, R.bind_ok]
  simp only [rng1D]
  rw [if_pos ⟨by omega, by omega⟩, Int.toNat_natCast]
theorem same_comp (r : List Int) (hz : r.length ≤ 10000) (st : Sto) : cComp (cRng1 (cB1 lenD (cVar 1))) (.one 2) tYesD (cCall m [(cOp2 getD (cVar 0) (cVar 2)), (cOp2 getD (cVar 1) (cVar 2))]) [2] (envS r none) st = .ok (List.replicate r.length (.bl true)) st := by
  have hz1 : r.length ≤ sizeLine := Nat.le_trans hz (by decide)
  simp only [cComp_ap, same_it r hz st, R.bind_ok, rng_len, if_pos hz1, same_go hm]
theorem same_ret (r : List Int) (hz : r.length ≤ 10000) (st : Sto) : sRet (cS1 allS (cComp (cRng1 (cB1 lenD (cVar 1))) (.one 2) tYesD (cCall m [(cOp2 getD (cVar 0) (cVar 2)), (cOp2 getD (cVar 1) (cVar 2))]) [2])) (envS r none) st = .rt (.bl true) st := by
  have al : allS (List.replicate r.length (.bl true)) st = .ok (.bl true) st := by simp [allS, bools_true]
  rw [sRet_ap, cS1_ap, same_comp hm r hz, R.bind_ok, al, fE_ok]
theorem same_body (r : List Int) (hz : r.length ≤ 10000) (st : Sto) : b__law_is_same m (envS r none) st = .rt (.bl true) st := by
  have e3 := same_ret hm r hz st
  have t1 : ∀ c : Ty, isiD c (rowD r) st = .ok (.bl (Ty.sub .tuple c)) st := fun c => rfl
  have e4 : sIf (tOrD (tNotD (cTru (cB1 (isiD .tuple) (cVar 0)))) (cTst (cOp2 neD (cB1 lenD (cVar 0)) (cB1 lenD (cVar 1))))) (sRet (cC (.bl false))) sNext (envS r none) st = .nx (envS r none) st := by
    simp [t1, sub5, truD, len_row]
  have e5 : cTru (cB1 (isiD .tuple) (cVar 1)) (envS r none) st = .ok true st := by simp [t1, sub5, truD]
  exact sSeq_rt ((sIf_true e5).trans ((sSeq_nx e4).trans e3))
end
theorem same_tup (k : Nat) (r : List Int) (hz : r.length ≤ 10000) (st : Sto) : m__law_is_same (k + 2) [rowD r, rowD r] st = .ok (.bl true) st := by
  show gcR st (outR (b__law_is_same (m__law_is_same (k + 1)) (envS r none) st)) = _
  rw [same_body (fun v st => same_int k v st) r hz st]
  exact gcR_id
section
variable {d s t m s2 t2 : Nat} {st : Sto} {S T : KV} {l : Int} {f : Bool}
theorem isfallen_ok (h : DiskAt st d s t S T l f) : m_Disk_is_fallen [.loc d] st = .ok (.bl f) st := by
  show gcR st (outR (b_Disk_is_fallen [some (.loc d)] st)) = _
  unfold b_Disk_is_fallen
  simp [fld4 h.o, outR, gcR_id]
theorem numbers_ok (h : DiskAt st d s t S T l f) (hz : T.length < 64) : m_Disk_numbers [.loc d] st = .ok (rowD (sortI (keysR T))) st := by
  show gcR st (outR (b_Disk_numbers [some (.loc d)] st)) = _
  have dT : dctD (.loc t) st = .ok (kvD T) st := by simp only [dctD, h.ht]
  have hl : (keysR T).length < 64 := by unfold keysR; rw [List.length_map]; exact hz
  unfold b_Disk_numbers
  simp [fld2 h.o, dT, intKeys_kv, hl, tupS, outR, gcR_id, rowD]
theorem nif : (("is_fallen" : Str) == ("_sure" : Str)) = false ∧ (("is_fallen" : Str) == ("_there" : Str)) = false ∧ (("is_fallen" : Str) == ("_left" : Str)) = false ∧ (("is_fallen" : Str) == ("_fallen" : Str)) = false := by decide +kernel
theorem nnu : (("numbers" : Str) == ("_sure" : Str)) = false ∧ (("numbers" : Str) == ("_there" : Str)) = false ∧ (("numbers" : Str) == ("_left" : Str)) = false ∧ (("numbers" : Str) == ("_fallen" : Str)) = false := by decide +kernel
theorem nar : (("arm" : Str) == ("_sure" : Str)) = false ∧ (("arm" : Str) == ("_there" : Str)) = false ∧ (("arm" : Str) == ("_left" : Str)) = false ∧ (("arm" : Str) == ("_fallen" : Str)) = false := by decide +kernel
theorem nri : (("rise" : Str) == ("_sure" : Str)) = false ∧ (("rise" : Str) == ("_there" : Str)) = false ∧ (("rise" : Str) == ("_left" : Str)) = false ∧ (("rise" : Str) == ("_fallen" : Str)) = false := by decide +kernel
@[simp] theorem no_if (a b c e : D) : (diskF a b c e).lookup ("is_fallen" : Str) = none := dnone a b c e nif.1 nif.2.1 nif.2.2.1 nif.2.2.2
@[simp] theorem no_nu (a b c e : D) : (diskF a b c e).lookup ("numbers" : Str) = none := dnone a b c e nnu.1 nnu.2.1 nnu.2.2.1 nnu.2.2.2
@[simp] theorem no_ar (a b c e : D) : (diskF a b c e).lookup ("arm" : Str) = none := dnone a b c e nar.1 nar.2.1 nar.2.2.1 nar.2.2.2
@[simp] theorem no_ri (a b c e : D) : (diskF a b c e).lookup ("rise" : Str) = none := dnone a b c e nri.1 nri.2.1 nri.2.2.1 nri.2.2.2
theorem sort_len (ns : List Int) : (sortI ns).length = ns.length := List.length_mergeSort ns
theorem sort_mem {ns : List Int} {n : Int} : n ∈ sortI ns ↔ n ∈ ns := List.mem_mergeSort
theorem right_ok (h : DiskAt st d s t S T l f) (h2 : ModelAt st m s2 t2 S T l f) (hz : T.length < 64) (nd : ND T) (M : Nat) (hM : M ≤ 10000) (hT : ∀ p ∈ T, p.2.length ≤ M) (h77 : (getR T 77).isSome = false) : m__law_is_right [.loc d, .loc m] st = .ok (.bl true) st := by
  show gcR st (outR (b__law_is_right [some (.loc d), some (.loc m), none, none, none] st)) = _
  have ht := lt_get h2.ht
  have q : (st.set t2 (.fdc (kvD T)))[t2]? = some (.fdc (kvD T)) := List.getElem?_set_self ht
  have qd : (st.set t2 (.fdc (kvD T)))[m]? = some (mObj s2 t2 l f) := by rw [get_set_ne h2.n.2.1]; exact h2.o
  have c : lockD (cOp2 getD (cVar 1) (cC (.str "there"))) (cComp (cKeysI (cOp2 getD (cVar 1) (cC (.str "there")))) (.one 4) tYesD (cVar 4) [4]) [some (.loc d), some (.loc m), none, none, none] st = .ok ((keysR T).map D.int) st := by
    have e0 : lockAt (cOp2 getD (cVar 1) (cC (.str "there"))) [some (.loc d), some (.loc m), none, none, none] st = some (t2, kvD T) := by simp [mg2 h2.o, h2.ht]
    rw [lockD_ap, e0]
    dsimp only
    have c1 : compGo (fun s => ∃ l, s[t2]? = some (.fdc l) ∧ l.map (·.1) = (kvD T).map (·.1)) (.one 4) tYesD (cVar 4) (wipeD [some (.loc d), some (.loc m), none, none, none] [4]) ((keysR T).map D.int) (st.set t2 (.fdc (kvD T))) = .ok ((keysR T).map D.int) (st.set t2 (.fdc (kvD T))) := by
      rw [compGo_pure (fun _ => true) (fun x => x) ⟨_, q, rfl⟩ _ fun x hx => ⟨_, rfl, rfl, fun _ => ?_⟩]
      · rw [List.filter_eq_self.mpr fun _ _ => rfl, List.map_id']
      · rfl
    have hz2 : ((keysR T).map D.int).length ≤ sizeLine := by
      unfold keysR
      rw [List.length_map, List.length_map]
      exact Nat.le_trans (Nat.le_of_lt hz) (by decide)
    have e2 : cComp (cKeysI (cOp2 getD (cVar 1) (cC (.str "there")))) (.one 4) tYesD (cVar 4) [4] [some (.loc d), some (.loc m), none, none, none] (st.set t2 (.fdc (kvD T))) = .ok ((keysR T).map D.int) (st.set t2 (.fdc (kvD T))) := by
      have e4 : cOp2 getD (cVar 1) (cC (.str "there")) [some (.loc d), some (.loc m), none, none, none] (st.set t2 (.fdc (kvD T))) = .ok (.loc t2) (st.set t2 (.fdc (kvD T))) := by simp [mg2 qd]
      simp only [cComp_ap, cKeysI_ap, e4, R.bind_ok, keysD, q, keysD_kv, if_pos hz2, c1]
    rw [e2]
    simp only [lockGo, q, List.set_set, set_self h2.ht]
  have hso : sortedS ((keysR T).map D.int) st = .ok ((sortI (keysR T)).map D.int) st := by unfold sortedS; rw [intsD_ints]
  have sm : m__law_is_same 3 [rowD (sortI (keysR T)), rowD (sortI (keysR T))] st = .ok (.bl true) st := same_tup 1 _ (by rw [sort_len]; unfold keysR; rw [List.length_map]; omega) st
  have sm2 : ∀ n : Int, m__law_is_same 3 [rowD ((getR T n).getD []), rowD ((getR T n).getD [])] st = .ok (.bl true) st := fun n => same_tup 1 _ (by have := row_len hT n; omega) st
  have sm3 : m__law_is_same 3 [rowD [], .tup []] st = .ok (.bl true) st := same_tup 1 [] (by decide) st
  have r77 : m_Disk_read [.loc d, .int 77] st = .ok (rowD []) st := by
    rw [read_ok h 77]
    cases e : getR T 77 with
    | none => rfl
    | some r => rw [e] at h77; cases h77
  have loop : ∀ body : PM.S, body = (sIf (tNotD (cTru (cCall (m__law_is_same 3) [(cMeth 0 "read" m_Disk_read (cVar 0) [(cVar 4)]), (cOp2 getD (cOp2 getD (cVar 1) (cC (.str "there"))) (cVar 4))]))) (sRet (cC (.bl false))) sNext) →
      ∃ ρ' st', forGo (fun _ => True) (gN 4) body ((sortI (keysR T)).map D.int) [some (.loc d), some (.loc m), some (rowD (sortI (keysR T))), some (.bl f), none] st = .nx ρ' st' ∧ ∃ x, ρ' = [some (.loc d), some (.loc m), some (rowD (sortI (keysR T))), some (.bl f), x] ∧ st' = st := fun body hb =>
    forGo_inv (fun _ ρ s' => ∃ x, ρ = [some (.loc d), some (.loc m), some (rowD (sortI (keysR T))), some (.bl f), x] ∧ s' = st) _ 0 (fun _ _ _ _ => trivial) (fun i x hx ρ s' ⟨x0, e1, e2⟩ => by
      subst e1 e2 hb
      rw [List.getElem?_map] at hx
      obtain ⟨n, hn, rfl⟩ := Option.map_eq_some_iff.mp hx
      have hnm : n ∈ keysR T := sort_mem.mp (List.mem_of_getElem? hn)
      have g := get_or (n := n) h2.ht (getR_key.mpr hnm)
      refine ⟨_, rfl, [some (.loc d), some (.loc m), some (rowD (sortI (keysR T))), some (.bl f), some (.int n)], s', .inl ?_, _, rfl, rfl⟩
      simp [h.o, read_ok h n, mg2 h2.o, g, sm2, truD]) _ _ ⟨none, rfl, rfl⟩
  obtain ⟨ρ', st', e1, x, e2, e3⟩ := loop _ rfl
  rw [e2, e3] at e1
  have it : cItr (cVar 2) [some (.loc d), some (.loc m), some (rowD (sortI (keysR T))), some (.bl f), none] st = .ok ⟨fun _ => True, (sortI (keysR T)).map D.int⟩ st := rfl
  have e : b__law_is_right [some (.loc d), some (.loc m), none, none, none] st = .rt (.bl true) st := by
    unfold b__law_is_right
    have w1 : sSet 2 (cS1 tupS (cS1 sortedS (lockD (cOp2 getD (cVar 1) (cC (.str "there"))) (cComp (cKeysI (cOp2 getD (cVar 1) (cC (.str "there")))) (.one 4) tYesD (cVar 4) [4])))) [some (.loc d), some (.loc m), none, none, none] st = .nx [some (.loc d), some (.loc m), some (rowD (sortI (keysR T))), none, none] st := by
      rw [sSet_ap, cS1_ap, cS1_ap, c]
      simp [hso, tupS, rowD]
    rw [sSeq_ap, w1]
    dsimp only
    have w2 : sSet 3 (cMeth 0 "is_fallen" m_Disk_is_fallen (cVar 0) []) [some (.loc d), some (.loc m), some (rowD (sortI (keysR T))), none, none] st = .nx [some (.loc d), some (.loc m), some (rowD (sortI (keysR T))), some (.bl f), none] st := by
      simp [h.o, isfallen_ok h]
    rw [sSeq_ap, w2]
    dsimp only
    have w3 : sIf (tOrD (tNotD (cTru (cCall (m__law_is_same 3) [(cMeth 0 "numbers" m_Disk_numbers (cVar 0) []), (cVar 2)]))) (tOrD (tNotD (cTru (cB1 (isiD .bool) (cVar 3)))) (cTst (cOp2 neD (cVar 3) (cOp2 getD (cVar 1) (cC (.str "fallen"))))))) (sRet (cC (.bl false))) sNext [some (.loc d), some (.loc m), some (rowD (sortI (keysR T))), some (.bl f), none] st = .nx [some (.loc d), some (.loc m), some (rowD (sortI (keysR T))), some (.bl f), none] st := by
      simp [h.o, numbers_ok h hz, sm, truD, isi_bl, sub6, mg4 h2.o]
    rw [sSeq_ap, w3]
    dsimp only
    rw [sSeq_ap, sFor_ap, it, fE_ok]
    dsimp only
    rw [e1]
    dsimp only
    simp [h.o, r77, sm3]
  rw [e]
  exact gcR_id
end
end PMl

set_option Elab.async false
set_option linter.all false
set_option maxRecDepth 100000
set_option maxHeartbeats 1000000
/-! the plain law of k25, 12: what stays true of a disk and its numbers. -/
namespace PMl
open PySem PM L2
structure Inv (S T : KV) (f : Bool) (N : List Int) (k : Nat) : Prop where
  nS : ND S
  nT : ND T
  lN : N.length = 5
  r1 : ∀ n, n ∈ keysR S ∨ n ∈ keysR T → 0 ≤ n ∧ ∃ y ∈ N, n ≤ y
  r2 : ∀ n ∈ N, 0 ≤ n ∧ n ≤ 9 + (k : Int)
  U : ∃ U : List Int, U.length ≤ k ∧ ∀ n, n ∈ keysR S ∨ n ∈ keysR T → n ∈ U
  mS : ∀ p ∈ S, p.2.length ≤ 6 * k
  mT : ∀ p ∈ T, p.2.length ≤ 6 * k
  A : ∃ A : List Int, A.length ≤ 5 ∧ (∀ n, (getR S n).isSome = true → (getR T n).isSome = false → n ∈ A) ∧ ∀ n ∈ N, n ∈ keysR S → n ∈ A
  B : ∃ B : List Int, B.length ≤ 5 ∧ (∀ n, 0 < (tailR S T n).length → n ∈ B) ∧ (f = false → ∀ n, 0 < (tailR S T n).length → n ∈ N)
variable {S T : KV} {f : Bool} {N : List Int} {k : Nat}
theorem Inv.up (h : Inv S T f N k) : Inv S T f N (k + 1) :=
  ⟨h.nS, h.nT, h.lN, h.r1, fun n hn => ⟨(h.r2 n hn).1, by have := (h.r2 n hn).2; omega⟩, let ⟨U, a, b⟩ := h.U; ⟨U, by omega, b⟩, fun p hp => by have := h.mS p hp; omega, fun p hp => by have := h.mT p hp; omega, h.A, h.B⟩
theorem Inv.fall (h : Inv S T false N k) (f' : Bool) : Inv S T f' N k :=
  ⟨h.nS, h.nT, h.lN, h.r1, h.r2, h.U, h.mS, h.mT, h.A, let ⟨B, a, b, c⟩ := h.B; ⟨B, a, b, fun _ => c rfl⟩⟩
theorem Inv.lenS (h : Inv S T f N k) : S.length ≤ k := by
  obtain ⟨U, a, b⟩ := h.U
  have := nodup_le (l := keysR S) (U := U) h.nS fun x hx => b x (.inl hx)
  unfold keysR at this
  rw [List.length_map] at this
  omega
theorem Inv.lenT (h : Inv S T f N k) : T.length ≤ k := by
  obtain ⟨U, a, b⟩ := h.U
  have := nodup_le (l := keysR T) (U := U) h.nT fun x hx => b x (.inr hx)
  unfold keysR at this
  rw [List.length_map] at this
  omega
theorem Inv.low (h : Inv S T f N k) : ∀ n, n ∈ keysR S ∨ n ∈ keysR T → 0 ≤ n ∧ n ≤ 9 + (k : Int) := fun n hn => by
  obtain ⟨a, y, hy, b⟩ := h.r1 n hn
  have := (h.r2 y hy).2
  omega
theorem keys_app {n : Int} {r : List Int} {x : Int} (h : x ∈ keysR (appR T n r)) : x = n ∨ x ∈ keysR T := by
  unfold appR at h
  rw [keys_put] at h
  split at h
  · exact .inr h
  · rcases List.mem_append.mp h with h | h
    · exact .inr h
    · exact .inl (List.mem_singleton.mp h)
theorem Inv.app (h : Inv S T false N k) {n : Int} (hn : n ∈ N) {r : List Int} (hr : r.length ≤ 6) : Inv S (appR T n r) false N (k + 1) := by
  have hu := h.up
  refine ⟨h.nS, nd_put h.nT, h.lN, fun x hx => ?_, hu.r2, ?_, hu.mS, fun p hp => ?_, ?_, ⟨N, by rw [h.lN]; exact Nat.le_refl _, fun x hx => ?_, fun _ x hx => ?_⟩⟩
  · rcases hx with hx | hx
    · exact h.r1 x (.inl hx)
    · rcases keys_app hx with e | hx
      · subst e; exact ⟨(h.r2 _ hn).1, _, hn, Int.le_refl _⟩
      · exact h.r1 x (.inr hx)
  · obtain ⟨U, a, b⟩ := h.U
    refine ⟨n :: U, by simp; exact a, fun x hx => ?_⟩
    rcases hx with hx | hx
    · exact List.mem_cons_of_mem _ (b x (.inl hx))
    · rcases keys_app hx with e | hx
      · subst e; exact List.mem_cons_self
      · exact List.mem_cons_of_mem _ (b x (.inr hx))
  · rcases mem_put hp with e | hp
    · have := row_len h.mT n
      rw [e]
      show ((getR T n).getD [] ++ r).length ≤ _
      rw [List.length_append]
      omega
    · exact hu.mT p hp
  · obtain ⟨A, a, b, c⟩ := h.A
    refine ⟨A, a, fun x h1 h2 => b x h1 ?_, c⟩
    unfold appR at h2
    rw [getR_put] at h2
    split at h2
    · cases h2
    · exact h2
  all_goals
    by_cases e : n = x
    · rw [← e]; exact hn
    · have e2 : tailR S (appR T n r) x = tailR S T x := by
        unfold tailR appR
        rw [getR_put, if_neg e]
      rw [e2] at hx
      exact h.B.choose_spec.2.2 rfl x hx
theorem tail_drop {n x : Int} (h : 0 < (tailR S (dropR T n) x).length) : n ≠ x ∧ 0 < (tailR S T x).length := by
  unfold tailR at h ⊢
  rw [getR_drop] at h
  split at h
  · simp at h
  · rename_i e
    exact ⟨e, h⟩
theorem keys_drop {n x : Int} (h : x ∈ keysR (dropR T n)) : x ∈ keysR T := by
  unfold keysR dropR at h
  obtain ⟨p, hp, e⟩ := List.mem_map.mp h
  rw [← e]
  exact List.mem_map_of_mem (List.mem_filter.mp hp).1
theorem Inv.drop (h : Inv S T false N k) {n : Int} (hn : n ∈ N) : Inv S (dropR T n) false N k := by
  obtain ⟨A, a, b, c⟩ := h.A
  obtain ⟨B, a', b', c'⟩ := h.B
  refine ⟨h.nS, nd_drop n h.nT, h.lN, fun x hx => h.r1 x (hx.imp id keys_drop), h.r2, ?_, h.mS, fun p hp => h.mT p (List.mem_filter.mp hp).1, ⟨A, a, fun x h1 h2 => ?_, c⟩, ⟨B, a', fun x hx => b' x (tail_drop hx).2, fun _ x hx => c' rfl x (tail_drop hx).2⟩⟩
  · obtain ⟨U, u1, u2⟩ := h.U
    exact ⟨U, u1, fun x hx => u2 x (hx.imp id keys_drop)⟩
  · rw [getR_drop] at h2
    split at h2
    · rename_i e
      subst e
      exact c n hn (getR_key.mp h1)
    · exact b x h1 h2
theorem max_ge {N : List Int} {m : Int} (h : maxI N = some m) : ∀ y ∈ N, y ≤ m := by
  cases N with
  | nil => cases h
  | cons a r =>
    cases h
    intro y hy
    rcases List.mem_cons.mp hy with e | hy
    · rw [e]; exact (foldl_max_ge r a).1
    · exact (foldl_max_ge r a).2 y hy
theorem max_mem {N : List Int} {m : Int} (h : maxI N = some m) : m ∈ N := by
  cases N with
  | nil => cases h
  | cons a r =>
    cases h
    rcases foldl_max_mem r a with e | e
    · rw [e]; exact List.mem_cons_self
    · exact List.mem_cons_of_mem _ e
theorem Inv.rename (h : Inv S T f N k) {p : Nat} (hp : p < 5) {m : Int} (hm : maxI N = some m) (hf : f = false → ∀ x, 0 < (tailR S T x).length → N[p]? ≠ some x) : Inv S T f (N.set p (m + 1)) (k + 1) := by
  have hu := h.up
  have hl := h.lN
  have fresh : (m + 1) ∈ N.set p (m + 1) := List.mem_of_getElem? (i := p) (List.getElem?_set_self (by omega))
  have ge := max_ge hm
  obtain ⟨A, a, b, c⟩ := h.A
  obtain ⟨B, a', b', c'⟩ := h.B
  refine ⟨h.nS, h.nT, by rw [List.length_set]; exact hl, fun x hx => ?_, fun x hx => ?_, hu.U, hu.mS, hu.mT, ⟨A, a, b, fun x hx hs => ?_⟩, ⟨B, a', b', fun e x hx => ?_⟩⟩
  · obtain ⟨q1, y, hy, q2⟩ := h.r1 x hx
    exact ⟨q1, m + 1, fresh, by have := ge y hy; omega⟩
  · rcases List.mem_or_eq_of_mem_set hx with hx | hx
    · exact hu.r2 x hx
    · have := h.r2 m (max_mem hm)
      rw [hx]
      exact ⟨by omega, by omega⟩
  · rcases List.mem_or_eq_of_mem_set hx with hx | hx
    · exact c x hx hs
    · obtain ⟨_, y, hy, q2⟩ := h.r1 x (.inl hs)
      have := ge y hy
      omega
  · have hx2 := c' e x hx
    have ne := hf e x hx
    obtain ⟨i, hi⟩ := List.mem_iff_getElem?.mp hx2
    have : i ≠ p := fun z => ne (z ▸ hi)
    exact List.mem_of_getElem? (i := i) (by rw [List.getElem?_set_ne (Ne.symm this)]; exact hi)
theorem Inv.flush (h : Inv S T false N k) : Inv T T false N k := by
  have e : ∀ n, tailR T T n = [] := fun n => by unfold tailR; exact List.drop_length
  obtain ⟨U, a, b⟩ := h.U
  exact ⟨h.nT, h.nT, h.lN, fun x hx => h.r1 x (.inr (hx.elim id id)), h.r2, ⟨U, a, fun x hx => b x (.inr (hx.elim id id))⟩, h.mT, h.mT, ⟨N, by rw [h.lN]; exact Nat.le_refl _, (fun n h1 h2 => by rw [h1] at h2; cases h2), fun n hn _ => hn⟩, ⟨[], by simp, fun n hn => by rw [e] at hn; simp at hn, fun _ n hn => by rw [e] at hn; simp at hn⟩⟩
theorem Inv.rise (h : Inv S T f N k) {R : KV} (hr : RiseOk S T (6 * k) R) : Inv R R false N k := by
  have e : ∀ n, tailR R R n = [] := fun n => by unfold tailR; exact List.drop_length
  obtain ⟨U, a, b⟩ := h.U
  exact ⟨hr.nd, hr.nd, h.lN, fun x hx => h.r1 x (hr.ks x (hx.elim id id)), h.r2, ⟨U, a, fun x hx => b x (hr.ks x (hx.elim id id))⟩, hr.ln, hr.ln, ⟨N, by rw [h.lN]; exact Nat.le_refl _, (fun n h1 h2 => by rw [h1] at h2; cases h2), fun n hn _ => hn⟩, ⟨[], by simp, fun n hn => by rw [e] at hn; simp at hn, fun _ n hn => by rw [e] at hn; simp at hn⟩⟩
end PMl

set_option Elab.async false
set_option linter.all false
set_option maxRecDepth 100000
set_option maxHeartbeats 2000000
/-! the plain law of k25, 13: a turn. -/
namespace PMl
open PySem PM L2
/-- a disk, its model, its numbers -/
structure Pair (st : Sto) (d s t m s2 t2 nl : Nat) (S T : KV) (l : Int) (f : Bool) (N : List Int) (k : Nat) : Prop where
  dk : DiskAt st d s t S T l f
  md : ModelAt st m s2 t2 S T l f
  nm : st[nl]? = some (.lst (N.map D.int))
  iv : Inv S T f N k
theorem DiskAt.keep {st st' : Sto} {d s t : Nat} {S T : KV} {l : Int} {f : Bool} (h : DiskAt st d s t S T l f) {L : List Nat} (k : Keep L st st') (h1 : d ∉ L) (h2 : s ∉ L) (h3 : t ∉ L) : DiskAt st' d s t S T l f :=
  ⟨k.eq _ _ h.o h1, k.eq _ _ h.hs h2, k.eq _ _ h.ht h3, h.n⟩
theorem ModelAt.keep {st st' : Sto} {d s t : Nat} {S T : KV} {l : Int} {f : Bool} (h : ModelAt st d s t S T l f) {L : List Nat} (k : Keep L st st') (h1 : d ∉ L) (h2 : s ∉ L) (h3 : t ∉ L) : ModelAt st' d s t S T l f :=
  ⟨k.eq _ _ h.o h1, k.eq _ _ h.hs h2, k.eq _ _ h.ht h3, h.n⟩
theorem Keep.more {L L' : List Nat} {st st' : Sto} (k : Keep L st st') (h : ∀ n ∈ L, n ∈ L') : Keep L' st st' := ⟨k.le, fun n o e hn => k.eq n o e fun z => hn (h n z)⟩
/-! ### one deed, both ways -/
section
variable {st : Sto} {d s t m s2 t2 nl : Nat} {S T : KV} {l : Int} {f : Bool} {N : List Int} {k : Nat}
theorem bounds (h : Inv S T f N k) (hk : k ≤ 31) : T.length < 64 ∧ S.length + T.length < 64 ∧ ∀ n, ((getR T n).getD []).length ≤ 6 * k := ⟨by have := h.lenT; omega, by have := h.lenS; have := h.lenT; omega, fun n => row_len h.mT n⟩
/-- what both hold after a deed -/
structure Both (st st2 : Sto) (d s t m s2 t2 : Nat) (s' t' s2' t2' : Nat) (S T : KV) (l : Int) (f : Bool) : Prop where
  dk : DiskAt st2 d s' t' S T l f
  md : ModelAt st2 m s2' t2' S T l f
  kp : Keep [d, s, t, m, s2, t2] st st2
  o1 : s' = s ∨ st.length ≤ s'
  o2 : t' = t ∨ st.length ≤ t'
  o3 : s2' = s2 ∨ st.length ≤ s2'
  o4 : t2' = t2 ∨ st.length ≤ t2'
  x : ∀ p ∈ [s', t'], ∀ q ∈ [s2', t2'], p ≠ q
theorem fresh_ne {st st1 : Sto} {a b : Nat} (ha : a < st1.length) (hb : st1.length ≤ b) : a ≠ b := by omega
variable (hd : DiskAt st d s t S T l f) (hm : ModelAt st m s2 t2 S T l f) (hx : ∀ p ∈ [d, s, t], ∀ q ∈ [m, s2, t2], p ≠ q)
include hd hm hx
theorem both_app (n : Int) (r : List Int) (hz : T.length < 1000) (hr : ((getR T n).getD []).length + r.length ≤ 10000) :
    ∃ v st1 st2 t2', m__law_told_deed [.loc d, .str "append", .int n, rowD r] st = .ok (.bl v) st1 ∧ m__law_deed [.loc m, .str "append", .int n, rowD r] st1 = .ok (.bl v) st2 ∧ Keep [d, s, t, m, s2, t2] st st1 ∧
      Both st st2 d s t m s2 t2 s t s2 t2' S (if f then T else appR T n r) (if f then l else fallL l) (if f then true else fallF l) := by
  have n1 : ∀ q ∈ [m, s2, t2], q ∉ [d, s, t] := fun q hq hp => hx q hp q hq rfl
  have n2 : ∀ p ∈ [d, s, t], p ∉ [m, s2, t2] := fun p hp hq => hx p hp p hq rfl
  obtain ⟨st1, e1, d1, k1⟩ := told_app hd n r hz hr
  have m1 := hm.keep k1 (n1 m (by simp)) (n1 s2 (by simp)) (n1 t2 (by simp))
  cases f with
  | true =>
    refine ⟨_, st1, st1, t2, e1, mdl_fallen m1 _ n r, k1.more (by simp), d1, m1, k1.more (by simp), .inl rfl, .inl rfl, .inl rfl, .inl rfl, fun p hp q hq => hx p (by simp at hp ⊢; omega) q (by simp at hq ⊢; omega)⟩
  | false =>
    obtain ⟨st2, e2, m2, k2⟩ := mdl_app m1 n r hz hr
    have d2 := d1.keep k2 (n2 d (by simp)) (n2 s (by simp)) (n2 t (by simp))
    have l1 := k1.le
    have hs := lt_get d1.hs
    have ht := lt_get d1.ht
    refine ⟨_, st1, st2, st1.length, e1, e2, k1.more (by simp), d2, m2, (k1.more (by simp)).trans (k2.more (by simp)), .inl rfl, .inl rfl, .inl rfl, .inr l1, fun p hp q hq => ?_⟩
    simp at hp hq
    rcases hq with e | e
    · exact hx p (by simp; omega) q (by simp; omega)
    · omega
theorem both_drop (n : Int) (nd : ND T) (hz : T.length < 1000) :
    ∃ v st1 st2 t2', m__law_deed [.loc m, .str "drop", .int n, .tup []] st = .ok (.bl v) st1 ∧ m__law_told_deed [.loc d, .str "drop", .int n, .tup []] st1 = .ok (.bl v) st2 ∧ Keep [d, s, t, m, s2, t2] st st1 ∧
      Both st st2 d s t m s2 t2 s t s2 t2' S (if f then T else dropR T n) (if f then l else fallL l) (if f then true else fallF l) := by
  have n1 : ∀ q ∈ [m, s2, t2], q ∉ [d, s, t] := fun q hq hp => hx q hp q hq rfl
  have n2 : ∀ p ∈ [d, s, t], p ∉ [m, s2, t2] := fun p hp hq => hx p hp p hq rfl
  have hs := lt_get hd.hs
  have ht := lt_get hd.ht
  cases f with
  | true =>
    obtain ⟨st1, e1, d1, k1⟩ := told_drop hd n
    have m1 := hm.keep k1 (n1 m (by simp)) (n1 s2 (by simp)) (n1 t2 (by simp))
    exact ⟨_, st, st1, t2, mdl_fallen hm _ n [], e1, Keep.refl, d1, m1, k1.more (by simp), .inl rfl, .inl rfl, .inl rfl, .inl rfl, fun p hp q hq => hx p (by simp at hp ⊢; omega) q (by simp at hq ⊢; omega)⟩
  | false =>
    obtain ⟨st1, e1, m1, k1⟩ := mdl_drop hm nd hz n
    have d1 := hd.keep k1 (n2 d (by simp)) (n2 s (by simp)) (n2 t (by simp))
    obtain ⟨st2, e2, d2, k2⟩ := told_drop d1 n
    have hl := k1.le
    have m2 := m1.keep k2 (n1 m (by simp)) (n1 s2 (by simp)) (by simp; have := lt_get hd.o; omega)
    refine ⟨_, st1, st2, st.length, e1, e2, k1.more (by simp), d2, m2, (k1.more (by simp)).trans (k2.more (by simp)), .inl rfl, .inl rfl, .inl rfl, .inr (Nat.le_refl _), fun p hp q hq => ?_⟩
    simp at hp hq
    rcases hq with e | e
    · exact hx p (by simp; omega) q (by simp; omega)
    · omega
theorem both_flush (nd : ND T) (hz : T.length < 1000) :
    ∃ v st1 st2 s' s2', m__law_told_deed [.loc d, .str "flush", .int 0, .tup []] st = .ok (.bl v) st1 ∧ m__law_deed [.loc m, .str "flush", .int 0, .tup []] st1 = .ok (.bl v) st2 ∧
      Both st st2 d s t m s2 t2 s' t s2' t2 (if f || fallF l then S else T) T (if f then l else fallL l) (if f then true else fallF l) := by
  have n1 : ∀ q ∈ [m, s2, t2], q ∉ [d, s, t] := fun q hq hp => hx q hp q hq rfl
  have hm1 := lt_get hm.o
  have hs := lt_get hm.hs
  have ht := lt_get hm.ht
  obtain ⟨st1, s', e1, d1, k1, o1⟩ := told_flush hd nd hz
  have m1 := hm.keep k1 (n1 m (by simp)) (n1 s2 (by simp)) (n1 t2 (by simp))
  have n2 : ∀ p ∈ [d, s', t], p ∉ [m, s2, t2] := fun p hp hq => by
    simp at hp
    rcases hp with e | e | e
    · exact hx p (by simp; omega) p hq rfl
    · rcases o1 with o | o
      · exact hx p (by simp; omega) p hq rfl
      · simp at hq; omega
    · exact hx p (by simp; omega) p hq rfl
  have l1 := k1.le
  cases f with
  | true =>
    exact ⟨_, st1, st1, s', s2, e1, mdl_fallen m1 _ 0 [], d1, m1, k1.more (by simp), o1, .inl rfl, .inl rfl, .inl rfl, fun p hp q hq => fun z => n2 p (by simp at hp ⊢; omega) (by rw [z]; simp at hq ⊢; omega)⟩
  | false =>
    obtain ⟨st2, s2', e2, m2, k2, o2⟩ := mdl_flush m1
    have d2 := d1.keep k2 (n2 d (by simp)) (n2 s' (by simp)) (n2 t (by simp))
    have hs1 := lt_get d1.hs
    have ht1 := lt_get d1.ht
    refine ⟨_, st1, st2, s', s2', e1, e2, ?_, ?_, (k1.more (by simp)).trans (k2.more (by simp)), o1, .inl rfl, o2.imp id (by omega), .inl rfl, fun p hp q hq => ?_⟩
    · simpa using d2
    · simpa using m2
    · simp at hp hq
      rcases hq with e | e
      · rcases o2 with o | o
        · exact fun z => n2 p (by simp; omega) (by rw [z, e, o]; simp)
        · omega
      · exact fun z => n2 p (by simp; omega) (by rw [z, e]; simp)
end
end PMl

set_option Elab.async false
set_option linter.all false
set_option maxRecDepth 100000
set_option maxHeartbeats 2000000
/-! the plain law of k25, 14: what a turn draws. -/
namespace PMl
open PySem PM L2
section
variable {st : Sto} {b : Nat} (hb : b < st.length)
include hb
theorem draw_at (x y z : Int) {many : Int} (h1 : 0 < many) (h2 : many ≤ 2 ^ 31) : ∃ v x' y', m__law_draw [.loc b, .int many] (st.set b (bagO x y z)) = .ok (.int v) (st.set b (bagO x' y' z)) ∧ 0 ≤ v ∧ v < many := by
  obtain ⟨v, x', y', e, q⟩ := draw_ok (st := st.set b (bagO x y z)) (List.getElem?_set_self hb) h1 h2
  rw [List.set_set] at e
  exact ⟨v, x', y', e, q⟩
theorem draws_go {te : PM.E} {i : Nat} {ρ : PM.Env} (z : Int) (ht : ∀ (d : D) (x y : Int), ∃ v x' y', te (ρ.set i (some d)) (st.set b (bagO x y z)) = .ok (.int v) (st.set b (bagO x' y' z))) (xs : List D) (x y : Int) :
    ∃ (r : List Int) (x' y' : Int), compGo (fun _ => True) (.one i) tYesD te ρ xs (st.set b (bagO x y z)) = .ok (r.map D.int) (st.set b (bagO x' y' z)) ∧ r.length = xs.length := by
  obtain ⟨ys, s', e, r, x', y', e1, e2, e3⟩ := compGo_inv (chk := fun _ => True) (t := .one i) (te := te) (ρ := ρ) (fun k acc s => ∃ (r : List Int) (x y : Int), acc = r.map D.int ∧ s = st.set b (bagO x y z) ∧ r.length = k) xs 0 [] (fun _ _ _ _ => trivial)
    (fun j d hd acc s ⟨r, x, y, e1, e2, e3⟩ => by
      subst e1 e2
      obtain ⟨v, x', y', e⟩ := ht d x y
      exact ⟨_, rfl, .int v, _, e, r ++ [v], x', y', by simp, rfl, by simp; omega⟩) (st.set b (bagO x y z)) ⟨[], x, y, rfl, rfl, rfl⟩
  rw [List.nil_append] at e1
  subst e1 e2
  exact ⟨r, x', y', e, by omega⟩
theorem row_drawn (ρ : PM.Env) (h0 : ρ[0]? = some (some (.loc b))) (hρ : ρ.length = 13) (x y z : Int) :
    ∃ r x' y', cS1 tupS (cComp (cRng1 (cCall m__law_draw [(cVar 0), (cC (.int 7))])) (.one 12) tYesD (cCall m__law_draw [(cVar 0), (cC (.int 256))]) [12]) ρ (st.set b (bagO x y z)) = .ok (rowD r) (st.set b (bagO x' y' z)) ∧ r.length ≤ 6 := by
  obtain ⟨n, x1, y1, e1, n0, n1⟩ := draw_at hb x y z (many := 7) (by decide) (by decide)
  have h1 : (ρ.set 12 none)[0]? = some (some (.loc b)) := by rw [List.getElem?_set_ne (by decide)]; exact h0
  obtain ⟨r, x2, y2, e2, hr⟩ := draws_go hb (te := cCall m__law_draw [(cVar 0), (cC (.int 256))]) (i := 12) (ρ := wipeD ρ [12]) z (fun d x y => by
    obtain ⟨v, x', y', e, _⟩ := draw_at hb x y z (many := 256) (by decide) (by decide)
    refine ⟨v, x', y', ?_⟩
    have h2 : ((wipeD ρ [12]).set 12 (some d))[0]? = some (some (.loc b)) := by rw [List.getElem?_set_ne (by decide)]; exact h1
    simp only [cCall_ap, cArgs_cons, cArgs_nil, cVar_ap, h2, cC_ap, R.bind_ok, e]) (rngD 0 n.toNat) x1 y1
  rw [rng_len] at hr
  refine ⟨r, x2, y2, ?_, by omega⟩
  have it : cRng1 (cCall m__law_draw [(cVar 0), (cC (.int 7))]) ρ (st.set b (bagO x y z)) = .ok ⟨fun _ => True, rngD 0 n.toNat⟩ (st.set b (bagO x1 y1 z)) := by
    simp only [cRng1_ap, cCall_ap, cArgs_cons, cArgs_nil, cVar_ap, h0, cC_ap, R.bind_ok, e1, rng1D]
    rw [if_pos ⟨by omega, by omega⟩]
  have hz : (rngD 0 n.toNat).length ≤ sizeLine := by rw [rng_len]; exact Nat.le_trans (show n.toNat ≤ 10 by omega) (by decide)
  rw [cS1_ap, cComp_ap, it, R.bind_ok]
  simp only [if_pos hz, e2, R.bind_ok, tupS, rowD]
theorem choices_drawn (ρ : PM.Env) (h0 : ρ[0]? = some (some (.loc b))) (hρ : ρ.length = 13) (n : Int) (n0 : 0 ≤ n) (n1 : n < 9) (h10 : ρ[10]? = some (some (.int n))) (x y z : Int) :
    ∃ r x' y', cS1 tupS (cComp (cRng1 (cVar 10)) (.one 12) tYesD (cIxL (cLst [(cCall m__law_draw [(cVar 0), (cC (.int 8))]), (cCall m__law_draw [(cVar 0), (cC (.int 100000))]), (cC (.int 1))]) (cCall m__law_draw [(cVar 0), (cC (.int 3))])) [12]) ρ (st.set b (bagO x y z)) = .ok (rowD r) (st.set b (bagO x' y' z)) ∧ r.length ≤ 9 := by
  have h1 : (ρ.set 12 none)[0]? = some (some (.loc b)) := by rw [List.getElem?_set_ne (by decide)]; exact h0
  obtain ⟨r, x2, y2, e2, hr⟩ := draws_go hb (te := cIxL (cLst [(cCall m__law_draw [(cVar 0), (cC (.int 8))]), (cCall m__law_draw [(cVar 0), (cC (.int 100000))]), (cC (.int 1))]) (cCall m__law_draw [(cVar 0), (cC (.int 3))])) (i := 12) (ρ := wipeD ρ [12]) z (fun d x y => by
    obtain ⟨v1, x1, y1, e1, _⟩ := draw_at hb x y z (many := 8) (by decide) (by decide)
    obtain ⟨v2, x2, y2, e2, _⟩ := draw_at hb x1 y1 z (many := 100000) (by decide) (by decide)
    obtain ⟨v3, x3, y3, e3, q0, q1⟩ := draw_at hb x2 y2 z (many := 3) (by decide) (by decide)
    have h2 : ((wipeD ρ [12]).set 12 (some d))[0]? = some (some (.loc b)) := by rw [List.getElem?_set_ne (by decide)]; exact h1
    obtain ⟨v, hv⟩ : ∃ v, atD [.int v1, .int v2, .int 1] (.int v3) (st.set b (bagO x3 y3 z)) = .ok (.int v) (st.set b (bagO x3 y3 z)) := by
      have : v3 = 0 ∨ v3 = 1 ∨ v3 = 2 := by omega
      rcases this with e | e | e <;> subst e
      · exact ⟨v1, rfl⟩
      · exact ⟨v2, rfl⟩
      · exact ⟨1, rfl⟩
    refine ⟨v, x3, y3, ?_⟩
    simp only [cIxL_ap, cLst_ap, cCall_ap, cArgs_cons, cArgs_nil, cVar_ap, h2, cC_ap, R.bind_ok, e1, e2, e3, hv]) (rngD 0 n.toNat) x y
  rw [rng_len] at hr
  refine ⟨r, x2, y2, ?_, by omega⟩
  have it : cRng1 (cVar 10) ρ (st.set b (bagO x y z)) = .ok ⟨fun _ => True, rngD 0 n.toNat⟩ (st.set b (bagO x y z)) := by
    simp only [cRng1_ap, cVar_ap, h10, R.bind_ok, rng1D]
    rw [if_pos ⟨by omega, by omega⟩]
  have hz : (rngD 0 n.toNat).length ≤ sizeLine := by rw [rng_len]; exact Nat.le_trans (show n.toNat ≤ 10 by omega) (by decide)
  rw [cS1_ap, cComp_ap, it, R.bind_ok]
  simp only [if_pos hz, e2, R.bind_ok, tupS, rowD]
end
end PMl

set_option Elab.async false
set_option linter.all false
set_option maxRecDepth 100000
set_option maxHeartbeats 4000000
/-! the plain law of k25, 15: a turn. -/
namespace PMl
open PySem PM L2
section
variable {st : Sto} {b d s t m s2 t2 nl : Nat} {S T : KV} {l : Int} {f : Bool} {N : List Int} {k : Nat}
/-- all of a pair's places differ -/
structure Apart (b d s t m s2 t2 nl : Nat) : Prop where
  bd : b ≠ d
  bs : b ≠ s
  bt : b ≠ t
  bm : b ≠ m
  bs2 : b ≠ s2
  bt2 : b ≠ t2
  bn : b ≠ nl
  dm : d ≠ m
  ds2 : d ≠ s2
  dt2 : d ≠ t2
  dn : d ≠ nl
  sm : s ≠ m
  ss2 : s ≠ s2
  st2 : s ≠ t2
  sn : s ≠ nl
  tm : t ≠ m
  ts2 : t ≠ s2
  tt2 : t ≠ t2
  tn : t ≠ nl
  mn : m ≠ nl
  s2n : s2 ≠ nl
  t2n : t2 ≠ nl
theorem out1 {a b : Nat} (h : b ≠ a) : a ∉ [b] := fun z => h (List.mem_singleton.mp z).symm
theorem Pair.bag (p : Pair st d s t m s2 t2 nl S T l f N k) (a : Apart b d s t m s2 t2 nl) (o : O) : Pair (st.set b o) d s t m s2 t2 nl S T l f N k := by
  have kp : Keep [b] st (st.set b o) := keep_set (by simp)
  exact ⟨p.dk.keep kp (out1 a.bd) (out1 a.bs) (out1 a.bt), p.md.keep kp (out1 a.bm) (out1 a.bs2) (out1 a.bt2), kp.eq _ _ p.nm (out1 a.bn), p.iv⟩
theorem Apart.hx (a : Apart b d s t m s2 t2 nl) : ∀ p ∈ [d, s, t], ∀ q ∈ [m, s2, t2], p ≠ q := by
  simp only [List.mem_cons, List.not_mem_nil, or_false, forall_eq_or_imp, forall_eq]
  exact ⟨⟨a.dm, a.ds2, a.dt2⟩, ⟨a.sm, a.ss2, a.st2⟩, a.tm, a.ts2, a.tt2⟩
theorem ne_own {x x' c n : Nat} (o : x' = x ∨ n ≤ x') (h : x ≠ c) (hc : c < n) : x' ≠ c := by
  rcases o with o | o
  · rw [o]; exact h
  · exact Nat.ne_of_gt (Nat.lt_of_lt_of_le hc o)
theorem out6 {a d s t m s2 t2 : Nat} (h1 : a ≠ d) (h2 : a ≠ s) (h3 : a ≠ t) (h4 : a ≠ m) (h5 : a ≠ s2) (h6 : a ≠ t2) : a ∉ [d, s, t, m, s2, t2] := by
  simp only [List.mem_cons, List.not_mem_nil, or_false, not_or]
  exact ⟨h1, h2, h3, h4, h5, h6⟩
theorem nth {N : List Int} (hN : N.length = 5) {p : Int} (h0 : 0 ≤ p) (h1 : p < 5) : ∃ i n, p = ((i : Nat) : Int) ∧ i < 5 ∧ N[i]? = some n ∧ n ∈ N := by
  obtain ⟨i, rfl⟩ := Int.eq_ofNat_of_zero_le h0
  have hi : i < N.length := by omega
  exact ⟨i, N[i], rfl, by omega, List.getElem?_eq_getElem hi, List.getElem_mem hi⟩
theorem num_at {st : Sto} {nl : Nat} {N : List Int} {i : Nat} {n : Int} (h : st[nl]? = some (.lst (N.map D.int))) (e : N[i]? = some n) : getD (.loc nl) (.int (i : Int)) st = .ok (.int n) st := by
  rw [getD_lst h, atD_nat]
  rw [List.getElem?_map, e]; rfl
abbrev envT (b d m nl : Nat) (x4 x5 x6 x7 x8 x9 x10 x11 x12 : Option D) : PM.Env := [some (.loc b), some (.loc d), some (.loc m), some (.loc nl), x4, x5, x6, x7, x8, x9, x10, x11, x12]
theorem both_apart {st2 : Sto} (p : Pair st d s t m s2 t2 nl S T l f N k) (a : Apart b d s t m s2 t2 nl) (hb : b < st.length) {s' t' s2' t2' : Nat} {S' T' : KV} {l' : Int} {f' : Bool} (B : Both st st2 d s t m s2 t2 s' t' s2' t2' S' T' l' f') : Apart b d s' t' m s2' t2' nl := by
  have hln := lt_get p.nm
  have h1 := lt_get p.dk.o
  have h4 := lt_get p.md.o
  have xx := B.x
  simp only [List.mem_cons, List.not_mem_nil, or_false, forall_eq_or_imp, forall_eq] at xx
  exact ⟨a.bd, (ne_own B.o1 a.bs.symm hb).symm, (ne_own B.o2 a.bt.symm hb).symm, a.bm, (ne_own B.o3 a.bs2.symm hb).symm, (ne_own B.o4 a.bt2.symm hb).symm, a.bn, a.dm, (ne_own B.o3 a.ds2.symm h1).symm, (ne_own B.o4 a.dt2.symm h1).symm, a.dn,
    ne_own B.o1 a.sm h4, xx.1.1, xx.1.2, ne_own B.o1 a.sn hln, ne_own B.o2 a.tm h4, xx.2.1, xx.2.2, ne_own B.o2 a.tn hln, a.mn, ne_own B.o3 a.s2n hln, ne_own B.o4 a.t2n hln⟩
/-- what a turn leaves -/
structure Turn (st0 st' : Sto) (b d s t m s2 t2 nl k : Nat) (s' t' s2' t2' : Nat) (S T : KV) (l : Int) (f : Bool) (N : List Int) : Prop where
  p : Pair st' d s' t' m s2' t2' nl S T l f N k
  a : Apart b d s' t' m s2' t2' nl
  bg : ∃ x y z, st'[b]? = some (bagO x y z)
  kp : Keep [b, d, s, t, m, s2, t2, nl] st0 st'
  o1 : s' = s ∨ st0.length ≤ s'
  o2 : t' = t ∨ st0.length ≤ t'
  o3 : s2' = s2 ∨ st0.length ≤ s2'
  o4 : t2' = t2 ∨ st0.length ≤ t2'
theorem both_turn {st0 st2 : Sto} {x y z : Int} (p : Pair st d s t m s2 t2 nl S T l f N k) (a : Apart b d s t m s2 t2 nl) (hb : st[b]? = some (bagO x y z)) (k0 : Keep [b] st0 st) (hl : st.length = st0.length) {s' t' s2' t2' : Nat} {S' T' : KV} {l' : Int} {f' : Bool} (B : Both st st2 d s t m s2 t2 s' t' s2' t2' S' T' l' f')
    {k' : Nat} (iv : Inv S' T' f' N k') : Turn st0 st2 b d s t m s2 t2 nl k' s' t' s2' t2' S' T' l' f' N :=
  ⟨⟨B.dk, B.md, B.kp.eq _ _ p.nm (out6 a.dn.symm a.sn.symm a.tn.symm a.mn.symm a.s2n.symm a.t2n.symm), iv⟩, both_apart p a (lt_get hb) B, ⟨x, y, z, B.kp.eq _ _ hb (out6 a.bd a.bs a.bt a.bm a.bs2 a.bt2)⟩, (k0.more (by simp)).trans (B.kp.more (by simp)),
    hl ▸ B.o1, hl ▸ B.o2, hl ▸ B.o3, hl ▸ B.o4⟩
end
end PMl

set_option Elab.async false
set_option linter.all false
set_option maxRecDepth 100000
set_option maxHeartbeats 4000000
/-! the plain law of k25, 16: a turn, case by case. -/
namespace PMl
open PySem PM L2
section
variable {st : Sto} {b d s t m s2 t2 nl : Nat} {S T : KV} {l : Int} {f : Bool} {N : List Int} {k : Nat} {x y z : Int}
/-- what is wanted of a turn from the place behind its first two draws -/
def Goes (st : Sto) (b d s t m s2 t2 nl k : Nat) (st' : Sto) : Prop := ∃ s' t' s2' t2' S' T' l' f' N', Turn st st' b d s t m s2 t2 nl (k + 1) s' t' s2' t2' S' T' l' f' N'
theorem turn_app (p : Pair st d s t m s2 t2 nl S T l f N k) (a : Apart b d s t m s2 t2 nl) (hb : b < st.length) (hk : k ≤ 30) (pl : Int) (h0 : 0 ≤ pl) (h1 : pl < 5) (pick x y z : Int) :
    ∃ st', sSeq (sSet 6 (cS1 tupS (cComp (cRng1 (cCall m__law_draw [(cVar 0), (cC (.int 7))])) (.one 12) tYesD (cCall m__law_draw [(cVar 0), (cC (.int 256))]) [12])))
      (sRet (cOp2 eqD (cCall m__law_told_deed [(cVar 1), (cC (.str "append")), (cOp2 getD (cVar 3) (cVar 5)), (cVar 6)]) (cCall m__law_deed [(cVar 2), (cC (.str "append")), (cOp2 getD (cVar 3) (cVar 5)), (cVar 6)])))
      (envT b d m nl (some (.int pick)) (some (.int pl)) none none none none none none none) (st.set b (bagO x y z)) = .rt (.bl true) st' ∧ Goes st b d s t m s2 t2 nl k st' := by
  obtain ⟨r, x3, y3, e3, hr⟩ := row_drawn hb (envT b d m nl (some (.int pick)) (some (.int pl)) none none none none none none none) rfl rfl x y z
  have pB := p.bag a (bagO x3 y3 z)
  obtain ⟨i, n, rfl, hi, en, hn⟩ := nth p.iv.lN h0 h1
  obtain ⟨bz, _, br⟩ := bounds p.iv (by omega)
  obtain ⟨v, st1, st2, t2', e4, e5, k1, B⟩ := both_app pB.dk pB.md a.hx n r (by omega) (by have := br n; omega)
  have q1 := num_at pB.nm en
  have q2 := num_at (k1.eq _ _ pB.nm (out6 a.dn.symm a.sn.symm a.tn.symm a.mn.symm a.s2n.symm a.t2n.symm)) en
  refine ⟨st2, ?_, s, t, s2, t2', _, _, _, _, N, both_turn pB a (List.getElem?_set_self hb) (keep_set (by simp)) List.length_set B ?_⟩
  · rw [sSeq_ap, sSet_ap, e3, fE_ok]
    simp [q1, e4, q2, e5]
  · cases f with
    | true => exact p.iv.up
    | false => exact (p.iv.app hn hr).fall _
theorem turn_flush (p : Pair st d s t m s2 t2 nl S T l f N k) (a : Apart b d s t m s2 t2 nl) (hb : b < st.length) (hk : k ≤ 30) (x4 x5 : Option D) (x y z : Int) :
    ∃ st', sRet (cOp2 eqD (cCall m__law_told_deed [(cVar 1), (cC (.str "flush")), (cC (.int 0)), (cTup [])]) (cCall m__law_deed [(cVar 2), (cC (.str "flush")), (cC (.int 0)), (cTup [])]))
      (envT b d m nl x4 x5 none none none none none none none) (st.set b (bagO x y z)) = .rt (.bl true) st' ∧ Goes st b d s t m s2 t2 nl k st' := by
  have pB := p.bag a (bagO x y z)
  obtain ⟨bz, _, br⟩ := bounds p.iv (by omega)
  obtain ⟨v, st1, st2, s', s2', e4, e5, B⟩ := both_flush pB.dk pB.md a.hx p.iv.nT (by omega)
  refine ⟨st2, ?_, s', t, s2', t2, _, _, _, _, N, both_turn pB a (List.getElem?_set_self hb) (keep_set (by simp)) List.length_set B ?_⟩
  · simp [e4, e5]
  · cases f with
    | true => exact p.iv.up
    | false =>
      cases hf : fallF l with
      | true => simpa [hf] using p.iv.up.fall true
      | false => simpa [hf] using p.iv.up.flush
end
end PMl

set_option Elab.async false
set_option linter.all false
set_option maxRecDepth 100000
set_option maxHeartbeats 4000000
/-! the plain law of k25, 17: the other cases. -/
namespace PMl
open PySem PM L2
section
variable {st : Sto} {b d s t m s2 t2 nl : Nat} {S T : KV} {l : Int} {f : Bool} {N : List Int} {k : Nat} {x y z : Int}
theorem Turn.nums {st' : Sto} {s' t' s2' t2' : Nat} {S' T' : KV} {l' : Int} {f' : Bool} {k1 : Nat} (h : Turn st st' b d s t m s2 t2 nl k s' t' s2' t2' S' T' l' f' N) {N' : List Int} (iv : Inv S' T' f' N' k1) : Turn st (st'.set nl (.lst (N'.map D.int))) b d s t m s2 t2 nl k1 s' t' s2' t2' S' T' l' f' N' := by
  have kp : Keep [nl] st' (st'.set nl (.lst (N'.map D.int))) := keep_set (by simp)
  have a := h.a
  obtain ⟨x, y, z, hb⟩ := h.bg
  exact ⟨⟨h.p.dk.keep kp (out1 a.dn.symm) (out1 a.sn.symm) (out1 a.tn.symm), h.p.md.keep kp (out1 a.mn.symm) (out1 a.s2n.symm) (out1 a.t2n.symm), get_set_eq h.p.nm, iv⟩, a, ⟨x, y, z, kp.eq _ _ hb (out1 a.bn.symm)⟩, h.kp.trans (kp.more (by simp)), h.o1, h.o2, h.o3, h.o4⟩
theorem turn_drop (p : Pair st d s t m s2 t2 nl S T l f N k) (a : Apart b d s t m s2 t2 nl) (hb : b < st.length) (hk : k ≤ 30) (pl : Int) (h0 : 0 ≤ pl) (h1 : pl < 5) (x4 : Option D) (x y z : Int) :
    ∃ st', (sSeq (sSet 7 (cCall m__law_deed [(cVar 2), (cC (.str "drop")), (cOp2 getD (cVar 3) (cVar 5)), (cTup [])]))
      (sSeq (sSet 8 (cCall m__law_told_deed [(cVar 1), (cC (.str "drop")), (cOp2 getD (cVar 3) (cVar 5)), (cTup [])]))
      (sSeq (sSub (cVar 3) (cVar 5) (cOp2 addD (cS1 maxS (cLs (cVar 3))) (cC (.int 1)))) (sRet (cOp2 eqD (cVar 8) (cVar 7))))))
      (envT b d m nl x4 (some (.int pl)) none none none none none none none) (st.set b (bagO x y z)) = .rt (.bl true) st' ∧ Goes st b d s t m s2 t2 nl k st' := by
  have pB := p.bag a (bagO x y z)
  obtain ⟨i, n, rfl, hi, en, hn⟩ := nth p.iv.lN h0 h1
  obtain ⟨bz, _, br⟩ := bounds p.iv (by omega)
  obtain ⟨v, st1, st2, t2', e4, e5, k1, B⟩ := both_drop pB.dk pB.md a.hx n p.iv.nT (by omega)
  have o6 : nl ∉ [d, s, t, m, s2, t2] := out6 a.dn.symm a.sn.symm a.tn.symm a.mn.symm a.s2n.symm a.t2n.symm
  have q1 := num_at pB.nm en
  have q2 := num_at (k1.eq _ _ pB.nm o6) en
  have n2 := B.kp.eq _ _ pB.nm o6
  obtain ⟨mx, hm⟩ : ∃ mx, maxI N = some mx := by
    cases N with
    | nil => simp at en
    | cons a r => exact ⟨_, rfl⟩
  have e6 : lstD (.loc nl) st2 = .ok (N.map D.int) st2 := by simp only [lstD, n2]
  have e7 : maxS (N.map D.int) st2 = .ok (.int mx) st2 := by
    unfold maxS
    rw [intsD_ints]
    show (match maxI N with | some m => R.ok (D.int m) st2 | none => .bad) = _
    rw [hm]
  have e8 : setD (.loc nl) (.int (i : Int)) (.int (mx + 1)) st2 = some (st2.set nl (.lst ((N.set i (mx + 1)).map D.int))) := by
    rw [setD_lst n2]
    have e : ixN (N.map D.int).length (i : Int) = some i := by
      unfold ixN
      rw [if_pos (by omega), if_pos (by rw [List.length_map, p.iv.lN]; omega), Int.toNat_natCast]
    rw [e]
    show some (st2.set nl (.lst ((N.map D.int).set i (.int (mx + 1))))) = _
    rw [List.map_set]
  have iv1 : Inv S (if f then T else dropR T n) (if f then true else fallF l) N k := by
    cases f with
    | true => exact p.iv
    | false => exact (p.iv.drop hn).fall _
  have iv2 : Inv S (if f then T else dropR T n) (if f then true else fallF l) (N.set i (mx + 1)) (k + 1) := by
    refine iv1.rename hi hm fun hf x hx => ?_
    cases f with
    | true => cases hf
    | false =>
      have := (tail_drop hx).1
      rw [en]
      exact fun z => this (Option.some.inj z)
  refine ⟨_, ?_, _, _, _, _, _, _, _, _, _, (both_turn pB a (List.getElem?_set_self hb) (keep_set (by simp)) List.length_set B iv1).nums iv2⟩
  simp [-List.map_set, q1, e4, q2, e5, e6, e7, e8]
theorem Both.same (hd : DiskAt st d s t S T l f) (hm : ModelAt st m s2 t2 S T l f) (hx : ∀ p ∈ [d, s, t], ∀ q ∈ [m, s2, t2], p ≠ q) : Both st st d s t m s2 t2 s t s2 t2 S T l f :=
  ⟨hd, hm, Keep.refl, .inl rfl, .inl rfl, .inl rfl, .inl rfl, fun p hp q hq => hx p (by simp at hp ⊢; omega) q (by simp at hq ⊢; omega)⟩
theorem turn_arm (p : Pair st d s t m s2 t2 nl S T l f N k) (a : Apart b d s t m s2 t2 nl) (hb : b < st.length) (x4 x5 : Option D) (x y z : Int) :
    ∃ st', (sSeq (sSet 9 (cIxL (cLst [(cC (.int 0)), (cC (.int 1)), (cC (.int 1)), (cC (.int 2)), (cC (.int 4))]) (cCall m__law_draw [(cVar 0), (cC (.int 5))])))
      (sSeq (sIf (tNotD (cTru (cOp2 getD (cVar 2) (cC (.str "fallen"))))) (sSeq (sSub (cVar 2) (cC (.str "left")) (cVar 9)) (sRet (cOp2 isND (cMeth 0 "arm" m_Disk_arm (cVar 1) [(cVar 9)]) (cC .non)))) sNext)
      (sRet (cC (.bl true)))))
      (envT b d m nl x4 x5 none none none none none none none) (st.set b (bagO x y z)) = .rt (.bl true) st' ∧ Goes st b d s t m s2 t2 nl k st' := by
  obtain ⟨v, x1, y1, e1, v0, v1⟩ := draw_at hb x y z (many := 5) (by decide) (by decide)
  have pB := p.bag a (bagO x1 y1 z)
  obtain ⟨mn, hmn⟩ : ∃ mn, atD [.int 0, .int 1, .int 1, .int 2, .int 4] (.int v) (st.set b (bagO x1 y1 z)) = .ok (.int mn) (st.set b (bagO x1 y1 z)) := by
    have : v = 0 ∨ v = 1 ∨ v = 2 ∨ v = 3 ∨ v = 4 := by omega
    rcases this with e | e | e | e | e <;> subst e <;> exact ⟨_, rfl⟩
  have hl : (st.set b (bagO x1 y1 z)).length = st.length := List.length_set
  have kb : Keep [b] st (st.set b (bagO x1 y1 z)) := keep_set (by simp)
  have hbg : (st.set b (bagO x1 y1 z))[b]? = some (bagO x1 y1 z) := List.getElem?_set_self hb
  generalize hs : st.set b (bagO x1 y1 z) = s1 at *
  cases f with
  | true =>
    refine ⟨s1, ?_, s, t, s2, t2, S, T, l, true, N, both_turn pB a hbg kb hl (Both.same pB.dk pB.md a.hx) p.iv.up⟩
    simp [e1, hmn, mg4 pB.md.o, truD]
  | false =>
    have m1 : ModelAt (s1.set m (mObj s2 t2 mn false)) m s2 t2 S T mn false := fall_atM pB.md
    have k1 : Keep [m] s1 (s1.set m (mObj s2 t2 mn false)) := keep_set (by simp)
    have d1 := pB.dk.keep k1 (out1 a.dm.symm) (out1 a.sm.symm) (out1 a.tm.symm)
    have d2 : DiskAt ((s1.set m (mObj s2 t2 mn false)).set d (dObj s t mn false)) d s t S T mn false := fall_at d1
    have k2 : Keep [d] (s1.set m (mObj s2 t2 mn false)) ((s1.set m (mObj s2 t2 mn false)).set d (dObj s t mn false)) := keep_set (by simp)
    have m2 := m1.keep k2 (out1 a.dm) (out1 a.ds2) (out1 a.dt2)
    have ar : m_Disk_arm [.loc d, .int mn] (s1.set m (mObj s2 t2 mn false)) = .ok .non ((s1.set m (mObj s2 t2 mn false)).set d (dObj s t mn false)) := by
      show gcR (s1.set m (mObj s2 t2 mn false)) (outR (b_Disk_arm [some (.loc d), some (.int mn)] (s1.set m (mObj s2 t2 mn false)))) = _
      have e : b_Disk_arm [some (.loc d), some (.int mn)] (s1.set m (mObj s2 t2 mn false)) = .nx [some (.loc d), some (.int mn)] ((s1.set m (mObj s2 t2 mn false)).set d (dObj s t mn false)) := by
        unfold b_Disk_arm
        simp [d1.o]
      rw [e]
      exact gcR_same List.length_set
    have B : Both s1 ((s1.set m (mObj s2 t2 mn false)).set d (dObj s t mn false)) d s t m s2 t2 s t s2 t2 S T mn false :=
      ⟨d2, m2, (k1.more (by simp)).trans (k2.more (by simp)), .inl rfl, .inl rfl, .inl rfl, .inl rfl, fun p hp q hq => a.hx p (by simp at hp ⊢; omega) q (by simp at hq ⊢; omega)⟩
    refine ⟨_, ?_, s, t, s2, t2, S, T, mn, false, N, both_turn pB a hbg kb hl B p.iv.up⟩
    simp [e1, hmn, mg4 pB.md.o, truD, ms3 pB.md.o, d1.o, ar, isND]
theorem turn_rise (p : Pair st d s t m s2 t2 nl S T l f N k) (a : Apart b d s t m s2 t2 nl) (hb : b < st.length) (hk : k ≤ 30) (x4 x5 : Option D) (x y z : Int) :
    ∃ st', (sSeq (sSet 10 (cCall m__law_draw [(cVar 0), (cC (.int 9))]))
      (sSeq (sSet 11 (cS1 tupS (cComp (cRng1 (cVar 10)) (.one 12) tYesD (cIxL (cLst [(cCall m__law_draw [(cVar 0), (cC (.int 8))]), (cCall m__law_draw [(cVar 0), (cC (.int 100000))]), (cC (.int 1))]) (cCall m__law_draw [(cVar 0), (cC (.int 3))])) [12])))
      (sSeq (sExp (cCall m__law_rise [(cVar 2), (cVar 11)]))
      (sRet (cOp2 isND (cMeth 0 "rise" m_Disk_rise (cVar 1) [(cVar 11)]) (cC .non))))))
      (envT b d m nl x4 x5 none none none none none none none) (st.set b (bagO x y z)) = .rt (.bl true) st' ∧ Goes st b d s t m s2 t2 nl k st' := by
  obtain ⟨v, x1, y1, e1, v0, v1⟩ := draw_at hb x y z (many := 9) (by decide) (by decide)
  obtain ⟨cs, x2, y2, e2, hcs⟩ := choices_drawn hb (envT b d m nl x4 x5 none none none none (some (.int v)) none none) rfl rfl v v0 v1 rfl x1 y1 z
  have pB := p.bag a (bagO x2 y2 z)
  obtain ⟨bz, bst, br⟩ := bounds p.iv (by omega)
  have hl : (st.set b (bagO x2 y2 z)).length = st.length := List.length_set
  have kb : Keep [b] st (st.set b (bagO x2 y2 z)) := keep_set (by simp)
  have hbg : (st.set b (bagO x2 y2 z))[b]? = some (bagO x2 y2 z) := List.getElem?_set_self hb
  have w1 : sSet 10 (cCall m__law_draw [(cVar 0), (cC (.int 9))]) (envT b d m nl x4 x5 none none none none none none none) (st.set b (bagO x y z)) = .nx (envT b d m nl x4 x5 none none none none (some (.int v)) none none) (st.set b (bagO x1 y1 z)) := by
    simp [e1]
  have w2 : sSet 11 (cS1 tupS (cComp (cRng1 (cVar 10)) (.one 12) tYesD (cIxL (cLst [(cCall m__law_draw [(cVar 0), (cC (.int 8))]), (cCall m__law_draw [(cVar 0), (cC (.int 100000))]), (cC (.int 1))]) (cCall m__law_draw [(cVar 0), (cC (.int 3))])) [12])) (envT b d m nl x4 x5 none none none none (some (.int v)) none none) (st.set b (bagO x1 y1 z)) = .nx (envT b d m nl x4 x5 none none none none (some (.int v)) (some (rowD cs)) none) (st.set b (bagO x2 y2 z)) := by
    rw [sSet_ap, e2, fE_ok]; rfl
  generalize hs : st.set b (bagO x2 y2 z) = s1 at *
  obtain ⟨A, la, hA, _⟩ := p.iv.A
  obtain ⟨Bl, lb, hB, _⟩ := p.iv.B
  obtain ⟨st1, s2', t2', e3, m1, k1, o3, o4⟩ := mrise_ok pB.md cs (by omega) (6 * k) (by omega) p.iv.mS p.iv.mT bst hA hB la lb
  have n2 : ∀ q ∈ [d, s, t], q ∉ [m, s2, t2] := fun q hq hp => a.hx q hq q hp rfl
  have d1 := pB.dk.keep k1 (n2 d (by simp)) (n2 s (by simp)) (n2 t (by simp))
  obtain ⟨st2, s', t', e4, d2, k2, o1, o2⟩ := dres d1 cs (6 * k) (by omega) p.iv.mS p.iv.mT (fun n hn => by have := p.iv.low n hn; omega) bst
  have l1 := k1.le
  have h1 := lt_get pB.dk.o
  have h2 := lt_get pB.dk.hs
  have h3 := lt_get pB.dk.ht
  have hm1 := lt_get m1.hs
  have hm2 := lt_get m1.ht
  have m2 := m1.keep k2 (fun z => a.hx m (by simpa using z) m (by simp) rfl) (by simp; omega) (by simp; omega)
  have B : Both s1 st2 d s t m s2 t2 s' t' s2' t2' _ _ 0 false :=
    ⟨d2, m2, (k1.more (by simp)).trans (k2.more (by simp)), .inr (by omega), .inr (by omega), .inr o3, .inr o4, fun p hp q hq => by
      simp at hp hq
      rcases hp with e | e <;> rcases hq with e' | e' <;> omega⟩
  refine ⟨st2, ?_, s', t', s2', t2', _, _, 0, false, N, both_turn pB a hbg kb hl B (p.iv.rise (rise_fold p.iv.mS p.iv.mT rng60)).up⟩
  have e3' : m__law_rise [.loc m, rowD cs] s1 = .ok .non st1 := e3
  have e4' : m_Disk_rise [.loc d, rowD cs] st1 = .ok .non st2 := e4
  rw [sSeq_nx w1, sSeq_nx w2]
  simp [e3', d1.o, e4', isND]
end
end PMl

set_option Elab.async false
set_option linter.all false
set_option maxRecDepth 100000
set_option maxHeartbeats 4000000
/-! the plain law of k25, 18: a turn, whole. -/
namespace PMl
open PySem PM L2
section
variable {st : Sto} {b d s t m s2 t2 nl : Nat} {S T : KV} {l : Int} {f : Bool} {N : List Int} {k : Nat} {x y z : Int}
theorem sIf_false {c : ET} {a : PM.S} {ρ : PM.Env} {st st' : Sto} (h : c ρ st = .ok false st') : sIf c a sNext ρ st = .nx ρ st' := by rw [sIf_ap, h]; rfl
open Classical in
theorem turn_gc {st' : Sto} (p : Pair st d s t m s2 t2 nl S T l f N k) (a : Apart b d s t m s2 t2 nl) (hb : b < st.length) (h : Goes st b d s t m s2 t2 nl k st') : ∃ st2, gcR st (.ok (.bl true) st') = .ok (.bl true) st2 ∧ Goes st b d s t m s2 t2 nl k st2 := by
  by_cases hp : st <+: st'
  · refine ⟨st, ?_, ?_⟩
    · obtain ⟨g, rfl⟩ := hp
      exact gcR_pure rfl
    · obtain ⟨s', t', s2', t2', S', T', l', f', N', q, a', ⟨x, y, z, hbag⟩, kp, o1, o2, o3, o4⟩ := h
      have back : ∀ {n : Nat} {o : O}, n < st.length → st'[n]? = some o → st[n]? = some o := fun {n o} hn e => by
        obtain ⟨g, rfl⟩ := hp
        rwa [List.getElem?_append_left hn] at e
      have hd := lt_get p.dk.o
      have hm := lt_get p.md.o
      have e1 := back hd q.dk.o
      rw [p.dk.o] at e1
      have e1 := Option.some.inj e1
      simp [diskF] at e1
      have e2 := back hm q.md.o
      rw [p.md.o] at e2
      have e2 := Option.some.inj e2
      simp [modK] at e2
      obtain ⟨rfl, rfl, _, _⟩ := e1
      obtain ⟨rfl, rfl, _, _⟩ := e2
      exact ⟨s, t, s2, t2, S', T', l', f', N', ⟨⟨back hd q.dk.o, back (lt_get p.dk.hs) q.dk.hs, back (lt_get p.dk.ht) q.dk.ht, q.dk.n⟩, ⟨back hm q.md.o, back (lt_get p.md.hs) q.md.hs, back (lt_get p.md.ht) q.md.ht, q.md.n⟩, back (lt_get p.nm) q.nm, q.iv⟩, a, ⟨x, y, z, back hb hbag⟩, Keep.refl, .inl rfl, .inl rfl, .inl rfl, .inl rfl⟩
  · refine ⟨st', ?_, h⟩
    show (if st <+: st' ∧ below st.length (.bl true) = true then R.ok (D.bl true) st else .ok (.bl true) st') = _
    rw [if_neg (fun z => hp z.1)]
theorem turn_ok (p : Pair st d s t m s2 t2 nl S T l f N k) (a : Apart b d s t m s2 t2 nl) (hbag : st[b]? = some (bagO x y z)) (hk : k ≤ 30) : ∃ st', m__law_turn [.loc b, .loc d, .loc m, .loc nl] st = .ok (.bl true) st' ∧ Goes st b d s t m s2 t2 nl k st' := by
  have hb := lt_get hbag
  suffices h : ∃ st', b__law_turn (envT b d m nl none none none none none none none none none) (st.set b (bagO x y z)) = .rt (.bl true) st' ∧ Goes st b d s t m s2 t2 nl k st' by
    obtain ⟨st1, e, g⟩ := h
    rw [set_self hbag] at e
    obtain ⟨st2, e2, g2⟩ := turn_gc p a hb g
    refine ⟨st2, ?_, g2⟩
    show gcR st (outR (b__law_turn (envT b d m nl none none none none none none none none none) st)) = _
    rw [e]
    exact e2
  obtain ⟨pk, x1, y1, e1, p0, p1⟩ := draw_at hb x y z (many := 10) (by decide) (by decide)
  obtain ⟨pl, x2, y2, e2, l0, l1⟩ := draw_at hb x1 y1 z (many := 5) (by decide) (by decide)
  have w1 : sSet 4 (cCall m__law_draw [(cVar 0), (cC (.int 10))]) (envT b d m nl none none none none none none none none none) (st.set b (bagO x y z)) = .nx (envT b d m nl (some (.int pk)) none none none none none none none none) (st.set b (bagO x1 y1 z)) := by simp [e1]
  have w2 : sSet 5 (cCall m__law_draw [(cVar 0), (cC (.int 5))]) (envT b d m nl (some (.int pk)) none none none none none none none none) (st.set b (bagO x1 y1 z)) = .nx (envT b d m nl (some (.int pk)) (some (.int pl)) none none none none none none none) (st.set b (bagO x2 y2 z)) := by simp [e2]
  have c1 : ∀ s, cTst (cOp2 ltD (cVar 4) (cC (.int 5))) (envT b d m nl (some (.int pk)) (some (.int pl)) none none none none none none none) s = .ok (decide (pk < 5)) s := fun s => by simp [ltD]
  have c2 : ∀ s, cTst (cOp2 eqD (cVar 4) (cC (.int 5))) (envT b d m nl (some (.int pk)) (some (.int pl)) none none none none none none none) s = .ok (decide (pk = 5)) s := fun s => by simp
  have c3 : ∀ s, cTst (cOp2 ltD (cVar 4) (cC (.int 8))) (envT b d m nl (some (.int pk)) (some (.int pl)) none none none none none none none) s = .ok (decide (pk < 8)) s := fun s => by simp [ltD]
  have c4 : ∀ s, cTst (cOp2 eqD (cVar 4) (cC (.int 8))) (envT b d m nl (some (.int pk)) (some (.int pl)) none none none none none none none) s = .ok (decide (pk = 8)) s := fun s => by simp
  unfold b__law_turn
  rw [sSeq_nx w1, sSeq_nx w2]
  by_cases h1 : pk < 5
  · obtain ⟨st', e, g⟩ := turn_app p a hb hk pl l0 l1 pk x2 y2 z
    rw [show decide (pk < 5) = true from decide_eq_true h1] at c1
    exact ⟨st', sSeq_rt ((sIf_true (c1 _)).trans e), g⟩
  · rw [show decide (pk < 5) = false from decide_eq_false h1] at c1
    rw [sSeq_nx (sIf_false (c1 _))]
    by_cases h2 : pk = 5
    · obtain ⟨st', e, g⟩ := turn_drop p a hb hk pl l0 l1 (some (.int pk)) x2 y2 z
      rw [show decide (pk = 5) = true from decide_eq_true h2] at c2
      exact ⟨st', sSeq_rt ((sIf_true (c2 _)).trans e), g⟩
    · rw [show decide (pk = 5) = false from decide_eq_false h2] at c2
      rw [sSeq_nx (sIf_false (c2 _))]
      by_cases h3 : pk < 8
      · obtain ⟨st', e, g⟩ := turn_flush p a hb hk (some (.int pk)) (some (.int pl)) x2 y2 z
        rw [show decide (pk < 8) = true from decide_eq_true h3] at c3
        exact ⟨st', sSeq_rt ((sIf_true (c3 _)).trans e), g⟩
      · rw [show decide (pk < 8) = false from decide_eq_false h3] at c3
        rw [sSeq_nx (sIf_false (c3 _))]
        by_cases h4 : pk = 8
        · obtain ⟨st', e, g⟩ := turn_arm p a hb (some (.int pk)) (some (.int pl)) x2 y2 z
          rw [show decide (pk = 8) = true from decide_eq_true h4] at c4
          exact ⟨st', sSeq_rt ((sIf_true (c4 _)).trans e), g⟩
        · rw [show decide (pk = 8) = false from decide_eq_false h4] at c4
          rw [sSeq_nx (sIf_false (c4 _))]
          exact turn_rise p a hb hk (some (.int pk)) (some (.int pl)) x2 y2 z
end
end PMl

set_option Elab.async false
set_option linter.all false
set_option maxRecDepth 100000
set_option maxHeartbeats 4000000
/-! the plain law of k25, 19: what is made at the start. -/
namespace PMl
open PySem PM L2
open Classical in
theorem gcR_loc {st st' : Sto} {n : Nat} (h : st.length ≤ n) : gcR st (.ok (.loc n) st') = .ok (.loc n) st' := by
  show (if st <+: st' ∧ below st.length (.loc n) = true then R.ok (D.loc n) st else .ok (.loc n) st') = _
  rw [if_neg]
  rintro ⟨_, z⟩
  have : decide (n < st.length) = true := z
  have := of_decide_eq_true this
  omega
theorem pow18 (st : Sto) : powD (.int 10) (.int 18) st = .ok (.int 1000000000000000000) st := by
  show (if shC 10 18 = true then R.ok (D.int ((10 : Int) ^ ((18 : Int).toNat))) st else .bad) = _
  rw [if_pos (by decide)]
  rfl
theorem bag_ok (xs : List Int) (k : Nat) (st : Sto) : ∃ x y z, m__law_bag [.con (xs.map .int), .int (k : Int)] st = .ok (.loc st.length) (st ++ [bagO x y z]) := by
  have fin : ∀ {x y z : Int}, b__law_bag [some (.con (xs.map .int)), some (.int (k : Int)), none] st = .rt (.loc st.length) (st ++ [bagO x y z]) → m__law_bag [.con (xs.map .int), .int (k : Int)] st = .ok (.loc st.length) (st ++ [bagO x y z]) := fun e => by
    show gcR st (outR (b__law_bag [some (.con (xs.map .int)), some (.int (k : Int)), none] st)) = _
    rw [e]
    exact gcR_loc (Nat.le_refl _)
  have ln : lenD (.con (xs.map D.int)) st = .ok (.int xs.length) st := by simp [lenD]
  obtain ⟨c, hc⟩ : ∃ c : Int, sSeq (sSet 2 (cC (.int 0))) (sIf (cTst (cOp2 ltD (cVar 1) (cB1 lenD (cVar 0)))) (sSet 2 (cB1 intD (cOp2 getD (cVar 0) (cVar 1)))) sNext) [some (.con (xs.map .int)), some (.int (k : Int)), none] st = .nx [some (.con (xs.map .int)), some (.int (k : Int)), some (.int c)] st := by
    by_cases h : k < xs.length
    · have g : getD (.con (xs.map D.int)) (.int (k : Int)) st = .ok (.int (xs[k])) st := by
        show atD (xs.map D.int) (.int (k : Int)) st = _
        rw [atD_nat]
        rw [List.getElem?_map, List.getElem?_eq_getElem h]; rfl
      exact ⟨xs[k], by simp [ln, ltD, h, g]⟩
    · exact ⟨0, by simp [ln, ltD, h]⟩
  have hc2 : ∀ rest : PM.S, sSeq (sSet 2 (cC (.int 0))) (sSeq (sIf (cTst (cOp2 ltD (cVar 1) (cB1 lenD (cVar 0)))) (sSet 2 (cB1 intD (cOp2 getD (cVar 0) (cVar 1)))) sNext) rest) [some (.con (xs.map .int)), some (.int (k : Int)), none] st = rest [some (.con (xs.map .int)), some (.int (k : Int)), some (.int c)] st := fun rest => by
    rw [sSeq_ap] at hc ⊢
    revert hc
    cases sSet 2 (cC (.int 0)) [some (.con (xs.map D.int)), some (.int (k : Int)), none] st with
    | nx ρ s =>
      intro hc
      dsimp only at hc ⊢
      rw [sSeq_ap, hc]
    | _ => intro hc; cases hc
  by_cases h : (1000000000000000000 : Int) ≤ c
  · refine ⟨c, c, k, fin ?_⟩
    unfold b__law_bag
    rw [hc2]
    simp [pow18, geD, h, bagO]
  · refine ⟨0, c, k, fin ?_⟩
    unfold b__law_bag
    rw [hc2]
    simp [pow18, geD, h, bagO]
theorem dI1 (v : D) : putFD "_sure" v [] = ([("_sure", v)] : List (Str × D)) := rfl
theorem dI2 (a v : D) : putFD "_there" v ([("_sure", a)] : List (Str × D)) = ([("_sure", a), ("_there", v)] : List (Str × D)) := by simp [putFD, m12]
theorem dI3 (a b v : D) : putFD "_left" v ([("_sure", a), ("_there", b)] : List (Str × D)) = ([("_sure", a), ("_there", b), ("_left", v)] : List (Str × D)) := by simp [putFD, m13, m23]
theorem dI4 (a b c v : D) : putFD "_fallen" v ([("_sure", a), ("_there", b), ("_left", c)] : List (Str × D)) = diskF a b c v := by simp [putFD, m14, m24, m34, diskF]
theorem init_ok (st : Sto) : m_Disk_init [.loc st.length] (st ++ [.ins 0 []]) = .ok .non (st ++ [dObj (st.length + 1) (st.length + 2) 0 false, .dct [], .dct []]) := by
  have e : b_Disk_init [some (.loc st.length)] (st ++ [.ins 0 []]) = .nx [some (.loc st.length)] (st ++ [dObj (st.length + 1) (st.length + 2) 0 false, .dct [], .dct []]) := by
    have g : ∀ (o : O) (g : Sto), (st ++ o :: g)[st.length]? = some o := fun o g => get_new
    have s_ : ∀ (o u : O) (g : Sto), (st ++ o :: g).set st.length u = st ++ u :: g := fun o u g => by
      rw [List.set_append_right _ _ (Nat.le_refl _), Nat.sub_self]; rfl
    unfold b_Disk_init
    simp [g, s_, dI1, dI2, dI3, dI4]
  show gcR (st ++ [.ins 0 []]) (outR (b_Disk_init [some (.loc st.length)] (st ++ [.ins 0 []]))) = _
  rw [e]
  refine gcR_new (n := st.length) (by simp) ?_
  rw [get_new, get_new]
  intro z
  have z := Option.some.inj z
  simp [diskF] at z
theorem mkdisk_ok (ρ : PM.Env) (st : Sto) : cMake 0 m_Disk_init [] ρ st = .ok (.loc st.length) (st ++ [dObj (st.length + 1) (st.length + 2) 0 false, .dct [], .dct []]) := by
  rw [cMake_ap, cArgs_nil, R.bind_ok]
  rw [init_ok]
  rfl
theorem mp_0 (v : D) : putD [] (.inr "sure" : Key) v = [(.inr "sure", v)] := rfl
theorem law_disk_ok (st : Sto) : m__law_disk [] st = .ok (.loc (st.length + 2)) (st ++ [.dct [], .dct [], mObj st.length (st.length + 1) 0 false]) := by
  have e : b__law_disk [] st = .rt (.loc (st.length + 2)) (st ++ [.dct [], .dct [], mObj st.length (st.length + 1) 0 false]) := by
    unfold b__law_disk
    have md : ∀ a b : D, mergeD [] [(.inr "sure", a), (.inr "there", b), (.inr "left", .int 0), (.inr "fallen", .bl false)] = modK a b (.int 0) (.bl false) := fun a b => by
      rw [merge_nodup]
      · rfl
      · simp [r12, r13, r14, r23, r24, r34]
    simp [cPairs, keyD, md]
  show gcR st (outR (b__law_disk [] st)) = _
  rw [e]
  exact gcR_loc (by omega)
end PMl

set_option Elab.async false
set_option linter.all false
set_option maxRecDepth 100000
set_option maxHeartbeats 4000000
/-! the plain law of k25, 20: two disks, one bag. -/
namespace PMl
open PySem PM L2
structure Half (st : Sto) (b d m nl k : Nat) (X : List Nat) : Prop where
  h : ∃ s t s2 t2 S T l f N, X = [d, s, t, m, s2, t2, nl] ∧ Pair st d s t m s2 t2 nl S T l f N k ∧ Apart b d s t m s2 t2 nl
structure Wd (st : Sto) (b : Nat) (C : List (Nat × O)) (d1 m1 n1 d2 m2 n2 k : Nat) : Prop where
  bg : ∃ x y z, st[b]? = some (bagO x y z)
  ct : ∀ c ∈ C, st[c.1]? = some c.2 ∧ c.1 ≠ b
  h : ∃ X1 X2, Half st b d1 m1 n1 k X1 ∧ Half st b d2 m2 n2 k X2 ∧ (∀ p ∈ X1, ∀ q ∈ X2, p ≠ q) ∧ (∀ p ∈ X1, ∀ c ∈ C, p ≠ c.1) ∧ (∀ p ∈ X2, ∀ c ∈ C, p ≠ c.1)
section
variable {st : Sto} {b d1 m1 n1 d2 m2 n2 k : Nat} {C : List (Nat × O)}
theorem Wd.swap (w : Wd st b C d1 m1 n1 d2 m2 n2 k) : Wd st b C d2 m2 n2 d1 m1 n1 k :=
  ⟨w.bg, w.ct, let ⟨X1, X2, h1, h2, x, c1, c2⟩ := w.h; ⟨X2, X1, h2, h1, fun p hp q hq z => x q hq p hp z.symm, c2, c1⟩⟩
theorem half_lt {d m nl : Nat} {X : List Nat} (h : Half st b d m nl k X) : ∀ q ∈ X, q < st.length := by
  obtain ⟨s, t, s2, t2, S, T, l, f, N, rfl, p, a⟩ := h.h
  intro q hq
  have h1 := lt_get p.dk.o
  have h2 := lt_get p.dk.hs
  have h3 := lt_get p.dk.ht
  have h4 := lt_get p.md.o
  have h5 := lt_get p.md.hs
  have h6 := lt_get p.md.ht
  have h7 := lt_get p.nm
  simp only [List.mem_cons, List.not_mem_nil, or_false] at hq
  rcases hq with e | e | e | e | e | e | e <;> rw [e] <;> assumption
theorem half_keep {d m nl : Nat} {X L : List Nat} {st' : Sto} (h : Half st b d m nl k X) (kp : Keep L st st') (hL : ∀ q ∈ X, q ∉ L) : Half st' b d m nl k X := by
  obtain ⟨s, t, s2, t2, S, T, l, f, N, rfl, p, a⟩ := h.h
  exact ⟨s, t, s2, t2, S, T, l, f, N, rfl, ⟨p.dk.keep kp (hL d (by simp)) (hL s (by simp)) (hL t (by simp)), p.md.keep kp (hL m (by simp)) (hL s2 (by simp)) (hL t2 (by simp)), kp.eq _ _ p.nm (hL nl (by simp)), p.iv⟩, a⟩
theorem half_up {d m nl : Nat} {X : List Nat} (h : Half st b d m nl k X) : Half st b d m nl (k + 1) X := by
  obtain ⟨s, t, s2, t2, S, T, l, f, N, rfl, p, a⟩ := h.h
  exact ⟨s, t, s2, t2, S, T, l, f, N, rfl, ⟨p.dk, p.md, p.nm, p.iv.up⟩, a⟩
theorem half_b {d m nl : Nat} {X : List Nat} (h : Half st b d m nl k X) : ∀ q ∈ X, q ≠ b := by
  obtain ⟨s, t, s2, t2, S, T, l, f, N, rfl, p, a⟩ := h.h
  intro q hq
  simp only [List.mem_cons, List.not_mem_nil, or_false] at hq
  rcases hq with e | e | e | e | e | e | e <;> rw [e]
  · exact a.bd.symm
  · exact a.bs.symm
  · exact a.bt.symm
  · exact a.bm.symm
  · exact a.bs2.symm
  · exact a.bt2.symm
  · exact a.bn.symm
/-- a turn of one half -/
theorem half_turn {d m nl : Nat} {X : List Nat} (h : Half st b d m nl k X) (hbag : ∃ x y z, st[b]? = some (bagO x y z)) (hk : k ≤ 30) :
    ∃ st' X', m__law_turn [.loc b, .loc d, .loc m, .loc nl] st = .ok (.bl true) st' ∧ Half st' b d m nl (k + 1) X' ∧ (∃ x y z, st'[b]? = some (bagO x y z)) ∧ Keep (b :: X) st st' ∧ ∀ c, c < st.length → (∀ p ∈ X, p ≠ c) → ∀ p ∈ X', p ≠ c := by
  obtain ⟨s, t, s2, t2, S, T, l, f, N, rfl, p, a⟩ := h.h
  obtain ⟨x, y, z, hb⟩ := hbag
  obtain ⟨st', e, s', t', s2', t2', S', T', l', f', N', tn⟩ := turn_ok p a hb hk
  refine ⟨st', _, e, ⟨s', t', s2', t2', S', T', l', f', N', rfl, tn.p, tn.a⟩, tn.bg, tn.kp, fun c hc hx q hq => ?_⟩
  simp only [List.mem_cons, List.not_mem_nil, or_false] at hq
  rcases hq with e | e | e | e | e | e | e <;> rw [e]
  · exact hx d (by simp)
  · exact ne_own tn.o1 (hx s (by simp)) hc
  · exact ne_own tn.o2 (hx t (by simp)) hc
  · exact hx m (by simp)
  · exact ne_own tn.o3 (hx s2 (by simp)) hc
  · exact ne_own tn.o4 (hx t2 (by simp)) hc
  · exact hx nl (by simp)
theorem Wd.turn (w : Wd st b C d1 m1 n1 d2 m2 n2 k) (hk : k ≤ 30) : ∃ st', m__law_turn [.loc b, .loc d1, .loc m1, .loc n1] st = .ok (.bl true) st' ∧ Wd st' b C d1 m1 n1 d2 m2 n2 (k + 1) := by
  obtain ⟨X1, X2, h1, h2, x, c1, c2⟩ := w.h
  obtain ⟨st', X', e, h1', bg, kp, new⟩ := half_turn h1 w.bg hk
  have l2 := half_lt h2
  have b2 := half_b h2
  refine ⟨st', e, bg, fun c hc => ⟨kp.eq _ _ (w.ct c hc).1 (fun z => ?_), (w.ct c hc).2⟩, X', X2, h1', half_up (half_keep h2 kp fun q hq z => ?_), fun p hp q hq => new q (l2 q hq) (fun p hp => x p hp q hq) p hp, fun p hp c hc => new c.1 (lt_get (w.ct c hc).1) (fun p hp => c1 p hp c hc) p hp, c2⟩
  · rcases List.mem_cons.mp z with z | z
    · exact (w.ct c hc).2 z
    · exact c1 _ z c hc rfl
  · rcases List.mem_cons.mp z with z | z
    · exact b2 q hq z
    · exact x q z q hq rfl
theorem Wd.bag (w : Wd st b C d1 m1 n1 d2 m2 n2 k) (x y z : Int) : Wd (st.set b (bagO x y z)) b C d1 m1 n1 d2 m2 n2 k := by
  obtain ⟨X1, X2, h1, h2, xx, c1, c2⟩ := w.h
  obtain ⟨x0, y0, z0, hb⟩ := w.bg
  have kp : Keep [b] st (st.set b (bagO x y z)) := keep_set (by simp)
  have b1 := half_b h1
  have b2 := half_b h2
  exact ⟨⟨x, y, z, List.getElem?_set_self (lt_get hb)⟩, fun c hc => ⟨kp.eq _ _ (w.ct c hc).1 (fun z => (w.ct c hc).2 (List.mem_singleton.mp z)), (w.ct c hc).2⟩, X1, X2, half_keep h1 kp (fun q hq z => b1 q hq (List.mem_singleton.mp z)), half_keep h2 kp (fun q hq z => b2 q hq (List.mem_singleton.mp z)), xx, c1, c2⟩
theorem Wd.right (w : Wd st b C d1 m1 n1 d2 m2 n2 k) (hk : k ≤ 30) : m__law_is_right [.loc d1, .loc m1] st = .ok (.bl true) st := by
  obtain ⟨X1, X2, h1, h2, xx, c1, c2⟩ := w.h
  obtain ⟨s, t, s2, t2, S, T, l, f, N, rfl, p, a⟩ := h1.h
  refine right_ok p.dk p.md (bounds p.iv (by omega)).1 p.iv.nT (6 * k) (by omega) p.iv.mT ?_
  cases e : (getR T 77).isSome with
  | false => rfl
  | true =>
    have := p.iv.low 77 (.inr (getR_key.mp e))
    omega
end
end PMl

set_option Elab.async false
set_option linter.all false
set_option maxRecDepth 100000
set_option maxHeartbeats 4000000
/-! the plain law of k25, 21: the start, the loops. -/
namespace PMl
open PySem PM L2
theorem get_plus {s L : Sto} {i : Nat} {o : O} (h : L[i]? = some o) : (s ++ L)[s.length + i]? = some o := by
  rw [List.getElem?_append_right (by omega), show s.length + i - s.length = i by omega]; exact h
theorem get_zero {s L : Sto} {o : O} (h : L[0]? = some o) : (s ++ L)[s.length]? = some o := get_plus (i := 0) h
theorem w_disks (ρ : PM.Env) (s : Sto) : sSet 3 (cNew (cLst [(cMake 0 m_Disk_init []), (cMake 0 m_Disk_init [])])) ρ s = .nx (ρ.set 3 (some (.loc (s.length + 6)))) (s ++ [dObj (s.length + 1) (s.length + 2) 0 false, .dct [], .dct [], dObj (s.length + 4) (s.length + 5) 0 false, .dct [], .dct [], .lst [.loc s.length, .loc (s.length + 3)]]) := by
  simp [-cMake_ap, mkdisk_ok]
theorem w_models (ρ : PM.Env) (s : Sto) : sSet 4 (cNew (cLst [(cCall m__law_disk []), (cCall m__law_disk [])])) ρ s = .nx (ρ.set 4 (some (.loc (s.length + 6)))) (s ++ [.dct [], .dct [], mObj s.length (s.length + 1) 0 false, .dct [], .dct [], mObj (s.length + 3) (s.length + 4) 0 false, .lst [.loc (s.length + 2), .loc (s.length + 5)]]) := by
  simp [law_disk_ok]
theorem w_numbers (ρ : PM.Env) (s : Sto) : sSet 5 (cNew (cLst [(cNew (cLst [(cC (.int 0)), (cC (.int 1)), (cC (.int 2)), (cC (.int 3)), (cC (.int 4))])), (cNew (cLst [(cC (.int 0)), (cC (.int 1)), (cC (.int 2)), (cC (.int 7)), (cC (.int 9))]))])) ρ s = .nx (ρ.set 5 (some (.loc (s.length + 2)))) (s ++ [.lst [.int 0, .int 1, .int 2, .int 3, .int 4], .lst [.int 0, .int 1, .int 2, .int 7, .int 9], .lst [.loc s.length, .loc (s.length + 1)]]) := by
  simp
theorem inv_start {N : List Int} (h : N.length = 5) (h2 : ∀ n ∈ N, 0 ≤ n ∧ n ≤ 9) : Inv [] [] false N 0 := by
  have e : ∀ n, tailR [] [] n = [] := fun n => rfl
  exact ⟨List.nodup_nil, List.nodup_nil, h, fun n hn => by simp [keysR] at hn, fun n hn => by have := h2 n hn; omega, ⟨[], by simp, fun n hn => by simp [keysR] at hn⟩, fun p hp => by simp at hp, fun p hp => by simp at hp, ⟨[], by simp, fun n hn => by simp [getR] at hn, fun n _ hn => by simp [keysR] at hn⟩, ⟨[], by simp, fun n hn => by rw [e] at hn; simp at hn, fun _ n hn => by rw [e] at hn; simp at hn⟩⟩
/-- the store behind the start -/
theorem wd_start (s : Sto) (x y z : Int) : ∀ s1 s2 s3 s4 : Sto, s1 = s ++ [bagO x y z] →
    s2 = s1 ++ [dObj (s1.length + 1) (s1.length + 2) 0 false, .dct [], .dct [], dObj (s1.length + 4) (s1.length + 5) 0 false, .dct [], .dct [], .lst [.loc s1.length, .loc (s1.length + 3)]] →
    s3 = s2 ++ [.dct [], .dct [], mObj s2.length (s2.length + 1) 0 false, .dct [], .dct [], mObj (s2.length + 3) (s2.length + 4) 0 false, .lst [.loc (s2.length + 2), .loc (s2.length + 5)]] →
    s4 = s3 ++ [.lst [.int 0, .int 1, .int 2, .int 3, .int 4], .lst [.int 0, .int 1, .int 2, .int 7, .int 9], .lst [.loc s3.length, .loc (s3.length + 1)]] →
    Wd s4 s.length [(s1.length + 6, .lst [.loc s1.length, .loc (s1.length + 3)]), (s2.length + 6, .lst [.loc (s2.length + 2), .loc (s2.length + 5)]), (s3.length + 2, .lst [.loc s3.length, .loc (s3.length + 1)])] s1.length (s2.length + 2) s3.length (s1.length + 3) (s2.length + 5) (s3.length + 1) 0 := by
  intro s1 s2 s3 s4 e1 e2 e3 e4
  have l1 : s1.length = s.length + 1 := by rw [e1]; simp
  have l2 : s2.length = s1.length + 7 := by rw [e2]; simp
  have l3 : s3.length = s2.length + 7 := by rw [e3]; simp
  have A0 : s4[s.length]? = some (bagO x y z) := by rw [e4, e3, e2, e1]; exact get_app (get_app (get_app get_new))
  have A : ∀ (i : Nat) (o : O), [dObj (s1.length + 1) (s1.length + 2) 0 false, .dct [], .dct [], dObj (s1.length + 4) (s1.length + 5) 0 false, .dct [], .dct [], .lst [.loc s1.length, .loc (s1.length + 3)]][i]? = some o → s4[s1.length + i]? = some o := fun i o h => by
    rw [e4, e3]
    refine get_app (get_app ?_)
    rw [e2]; exact get_plus h
  have B : ∀ (i : Nat) (o : O), [.dct [], .dct [], mObj s2.length (s2.length + 1) 0 false, .dct [], .dct [], mObj (s2.length + 3) (s2.length + 4) 0 false, .lst [.loc (s2.length + 2), .loc (s2.length + 5)]][i]? = some o → s4[s2.length + i]? = some o := fun i o h => by
    rw [e4]
    refine get_app ?_
    rw [e3]; exact get_plus h
  have C : ∀ (i : Nat) (o : O), [.lst [.int 0, .int 1, .int 2, .int 3, .int 4], .lst [.int 0, .int 1, .int 2, .int 7, .int 9], .lst [.loc s3.length, .loc (s3.length + 1)]][i]? = some o → s4[s3.length + i]? = some o := fun i o h => by
    rw [e4]; exact get_plus h
  have h1 : Half s4 s.length s1.length (s2.length + 2) s3.length 0 [s1.length, s1.length + 1, s1.length + 2, s2.length + 2, s2.length, s2.length + 1, s3.length] :=
    ⟨_, _, _, _, [], [], 0, false, [0, 1, 2, 3, 4], rfl, ⟨⟨A 0 _ rfl, A 1 _ rfl, A 2 _ rfl, by omega, by omega, by omega⟩, ⟨B 2 _ rfl, B 0 _ rfl, B 1 _ rfl, by omega, by omega, by omega⟩, C 0 _ rfl, inv_start rfl (by decide)⟩,
      ⟨by omega, by omega, by omega, by omega, by omega, by omega, by omega, by omega, by omega, by omega, by omega, by omega, by omega, by omega, by omega, by omega, by omega, by omega, by omega, by omega, by omega, by omega⟩⟩
  have h2 : Half s4 s.length (s1.length + 3) (s2.length + 5) (s3.length + 1) 0 [s1.length + 3, s1.length + 4, s1.length + 5, s2.length + 5, s2.length + 3, s2.length + 4, s3.length + 1] :=
    ⟨_, _, _, _, [], [], 0, false, [0, 1, 2, 7, 9], rfl, ⟨⟨A 3 _ rfl, A 4 _ rfl, A 5 _ rfl, by omega, by omega, by omega⟩, ⟨B 5 _ rfl, B 3 _ rfl, B 4 _ rfl, by omega, by omega, by omega⟩, C 1 _ rfl, inv_start rfl (by decide)⟩,
      ⟨by omega, by omega, by omega, by omega, by omega, by omega, by omega, by omega, by omega, by omega, by omega, by omega, by omega, by omega, by omega, by omega, by omega, by omega, by omega, by omega, by omega, by omega⟩⟩
  refine ⟨⟨x, y, z, A0⟩, fun c hc => ?_, _, _, h1, h2, fun p hp q hq => ?_, fun p hp c hc => ?_, fun p hp c hc => ?_⟩
  · simp only [List.mem_cons, List.not_mem_nil, or_false] at hc
    rcases hc with e | e | e <;> subst e
    · exact ⟨A 6 _ rfl, by show s1.length + 6 ≠ s.length; omega⟩
    · exact ⟨B 6 _ rfl, by show s2.length + 6 ≠ s.length; omega⟩
    · exact ⟨C 2 _ rfl, by show s3.length + 2 ≠ s.length; omega⟩
  · simp only [List.mem_cons, List.not_mem_nil, or_false] at hp hq
    omega
  · simp only [List.mem_cons, List.not_mem_nil, or_false] at hp hc
    rcases hc with e | e | e <;> subst e <;> dsimp only <;> omega
  · simp only [List.mem_cons, List.not_mem_nil, or_false] at hp hc
    rcases hc with e | e | e <;> subst e <;> dsimp only <;> omega
end PMl

set_option Elab.async false
set_option linter.all false
set_option maxRecDepth 100000
set_option maxHeartbeats 4000000
/-! the plain law of k25, whole. -/
namespace PMl
open PySem PM L2
noncomputable abbrev bodyO : PM.S := sIf (tNotD (cTru (cCall m__law_is_right [(cOp2 getD (cVar 3) (cVar 8)), (cOp2 getD (cVar 4) (cVar 8))]))) (sRet (cC (.bl false))) sNext
noncomputable abbrev bodyT : PM.S := (sSeq (sSet 7 (cCall m__law_draw [(cVar 2), (cC (.int 2))]))
  (sSeq (sIf (tNotD (cTru (cCall m__law_turn [(cVar 2), (cOp2 getD (cVar 3) (cVar 7)), (cOp2 getD (cVar 4) (cVar 7)), (cOp2 getD (cVar 5) (cVar 7))]))) (sRet (cC (.bl false))) sNext)
  (sFor (cRng1 (cC (.int 2))) (gN 8) bodyO)))
abbrev envL (sc x1 : Option D) (b dl ml nll : Nat) (x6 x7 x8 : Option D) : PM.Env := [sc, x1, some (.loc b), some (.loc dl), some (.loc ml), some (.loc nll), x6, x7, x8]
section
variable {s : Sto} {sc x1 x6 x7 x8 : Option D} {b dl ml nll d1 m1 n1 d2 m2 n2 k : Nat}
abbrev cC_ (dl ml nll d1 m1 n1 d2 m2 n2 : Nat) : List (Nat × O) := [(dl, .lst [.loc d1, .loc d2]), (ml, .lst [.loc m1, .loc m2]), (nll, .lst [.loc n1, .loc n2])]
theorem rng_2 {ρ : PM.Env} {s : Sto} : cRng1 (cC (.int 2)) ρ s = .ok ⟨fun _ => True, rngD 0 2⟩ s := by
  rw [cRng1_ap, cC_ap, R.bind_ok]
  simp only [rng1D]
  rw [if_pos ⟨by decide, by decide⟩]
  rfl
theorem rng_30 {ρ : PM.Env} {s : Sto} : cRng1 (cC (.int 30)) ρ s = .ok ⟨fun _ => True, rngD 0 30⟩ s := by
  rw [cRng1_ap, cC_ap, R.bind_ok]
  simp only [rng1D]
  rw [if_pos ⟨by decide, by decide⟩]
  rfl
theorem rng_nth {n i : Nat} {d : D} (h : (rngD 0 n)[i]? = some d) : i < n ∧ d = .int (i : Int) := by
  unfold rngD at h
  rw [List.getElem?_map] at h
  obtain ⟨j, e1, e2⟩ := Option.map_eq_some_iff.mp h
  obtain ⟨h1, h2⟩ := List.getElem?_eq_some_iff.mp e1
  simp at h1 h2
  subst h2
  exact ⟨h1, by rw [← e2, Int.zero_add]⟩
theorem look (w : Wd s b (cC_ dl ml nll d1 m1 n1 d2 m2 n2) d1 m1 n1 d2 m2 n2 k) : s[dl]? = some (.lst [.loc d1, .loc d2]) ∧ s[ml]? = some (.lst [.loc m1, .loc m2]) ∧ s[nll]? = some (.lst [.loc n1, .loc n2]) :=
  ⟨(w.ct (dl, .lst [.loc d1, .loc d2]) (by simp)).1, (w.ct (ml, .lst [.loc m1, .loc m2]) (by simp)).1, (w.ct (nll, .lst [.loc n1, .loc n2]) (by simp)).1⟩
theorem rights (w : Wd s b (cC_ dl ml nll d1 m1 n1 d2 m2 n2) d1 m1 n1 d2 m2 n2 k) (hk : k ≤ 30) : ∃ x8', sFor (cRng1 (cC (.int 2))) (gN 8) bodyO (envL sc x1 b dl ml nll x6 x7 x8) s = .nx (envL sc x1 b dl ml nll x6 x7 x8') s := by
  obtain ⟨c1, c2, c3⟩ := look w
  have r1 := w.right hk
  have r2 := w.swap.right hk
  obtain ⟨ρ', s', e, x, e1, e2⟩ := forGo_inv (chk := fun _ => True) (g := gN 8) (body := bodyO) (fun _ ρ s' => ∃ x, ρ = envL sc x1 b dl ml nll x6 x7 x ∧ s' = s) (rngD 0 2) 0 (fun _ _ _ _ => trivial) (fun i d hd ρ s' ⟨x, e1, e2⟩ => by
    obtain ⟨hi, e⟩ := rng_nth hd
    subst e1 e2 e
    refine ⟨_, rfl, envL sc x1 b dl ml nll x6 x7 (some (.int (i : Int))), s', .inl ?_, _, rfl, rfl⟩
    have : i = 0 ∨ i = 1 := by omega
    rcases this with e | e <;> subst e
    · have g1 : getD (.loc dl) (.int ((0 : Nat) : Int)) s' = .ok (.loc d1) s' := (getD_lst c1).trans rfl
      have g2 : getD (.loc ml) (.int ((0 : Nat) : Int)) s' = .ok (.loc m1) s' := (getD_lst c2).trans rfl
      simp at g1 g2
      simp [g1, g2, r1, truD]
    · have g1 : getD (.loc dl) (.int ((1 : Nat) : Int)) s' = .ok (.loc d2) s' := (getD_lst c1).trans rfl
      have g2 : getD (.loc ml) (.int ((1 : Nat) : Int)) s' = .ok (.loc m2) s' := (getD_lst c2).trans rfl
      simp at g1 g2
      simp [g1, g2, r2, truD]) (envL sc x1 b dl ml nll x6 x7 x8) s ⟨x8, rfl, rfl⟩
  subst e1 e2
  have it : cRng1 (cC (.int 2)) (envL sc x1 b dl ml nll x6 x7 x8) s' = .ok ⟨fun _ => True, rngD 0 2⟩ s' := rng_2
  exact ⟨x, by rw [sFor_ap, it, fE_ok]; exact e⟩
theorem body_turn (w : Wd s b (cC_ dl ml nll d1 m1 n1 d2 m2 n2) d1 m1 n1 d2 m2 n2 k) (hk : k ≤ 29) : ∃ x7' x8' s', bodyT (envL sc x1 b dl ml nll x6 x7 x8) s = .nx (envL sc x1 b dl ml nll x6 x7' x8') s' ∧ Wd s' b (cC_ dl ml nll d1 m1 n1 d2 m2 n2) d1 m1 n1 d2 m2 n2 (k + 1) := by
  obtain ⟨x, y, z, hb⟩ := w.bg
  obtain ⟨v, x', y', e1, v0, v1⟩ := draw_at (st := s) (lt_get hb) x y z (many := 2) (by decide) (by decide)
  rw [set_self hb] at e1
  have w1 := w.bag x' y' z
  generalize s.set b (bagO x' y' z) = s1 at e1 w1
  have a1 : sSet 7 (cCall m__law_draw [(cVar 2), (cC (.int 2))]) (envL sc x1 b dl ml nll x6 x7 x8) s = .nx (envL sc x1 b dl ml nll x6 (some (.int v)) x8) s1 := by simp [e1]
  obtain ⟨c1, c2, c3⟩ := look w1
  have : v = 0 ∨ v = 1 := by omega
  rcases this with e | e <;> subst e
  · obtain ⟨s2, e2, w2⟩ := w1.turn (by omega)
    obtain ⟨x8', e3⟩ := rights (sc := sc) (x1 := x1) (x6 := x6) (x7 := some (.int 0)) (x8 := x8) w2 (by omega)
    have g1 : getD (.loc dl) (.int 0) s1 = .ok (.loc d1) s1 := (getD_lst c1).trans rfl
    have g2 : getD (.loc ml) (.int 0) s1 = .ok (.loc m1) s1 := (getD_lst c2).trans rfl
    have g3 : getD (.loc nll) (.int 0) s1 = .ok (.loc n1) s1 := (getD_lst c3).trans rfl
    refine ⟨some (.int 0), x8', s2, ?_, w2⟩
    have a2 : sIf (tNotD (cTru (cCall m__law_turn [(cVar 2), (cOp2 getD (cVar 3) (cVar 7)), (cOp2 getD (cVar 4) (cVar 7)), (cOp2 getD (cVar 5) (cVar 7))]))) (sRet (cC (.bl false))) sNext (envL sc x1 b dl ml nll x6 (some (.int 0)) x8) s1 = .nx (envL sc x1 b dl ml nll x6 (some (.int 0)) x8) s2 := by
      simp [g1, g2, g3, e2, truD]
    exact (sSeq_nx a1).trans ((sSeq_nx a2).trans e3)
  · obtain ⟨s2, e2, w2⟩ := w1.swap.turn (by omega)
    have w2 := w2.swap
    obtain ⟨x8', e3⟩ := rights (sc := sc) (x1 := x1) (x6 := x6) (x7 := some (.int 1)) (x8 := x8) w2 (by omega)
    have g1 : getD (.loc dl) (.int 1) s1 = .ok (.loc d2) s1 := (getD_lst c1).trans rfl
    have g2 : getD (.loc ml) (.int 1) s1 = .ok (.loc m2) s1 := (getD_lst c2).trans rfl
    have g3 : getD (.loc nll) (.int 1) s1 = .ok (.loc n2) s1 := (getD_lst c3).trans rfl
    refine ⟨some (.int 1), x8', s2, ?_, w2⟩
    have a2 : sIf (tNotD (cTru (cCall m__law_turn [(cVar 2), (cOp2 getD (cVar 3) (cVar 7)), (cOp2 getD (cVar 4) (cVar 7)), (cOp2 getD (cVar 5) (cVar 7))]))) (sRet (cC (.bl false))) sNext (envL sc x1 b dl ml nll x6 (some (.int 1)) x8) s1 = .nx (envL sc x1 b dl ml nll x6 (some (.int 1)) x8) s2 := by
      simp [g1, g2, g3, e2, truD]
    exact (sSeq_nx a1).trans ((sSeq_nx a2).trans e3)
end
end PMl

set_option Elab.async false
set_option linter.all false
set_option maxRecDepth 100000
set_option maxHeartbeats 4000000
/-! the plain law of k25, whole. -/
namespace PMl
open PySem PM L2
theorem turns {s : Sto} {sc x1 x6 x7 x8 : Option D} {b dl ml nll d1 m1 n1 d2 m2 n2 : Nat} (w : Wd s b (cC_ dl ml nll d1 m1 n1 d2 m2 n2) d1 m1 n1 d2 m2 n2 0) :
    ∃ y6 y7 y8 s', sFor (cRng1 (cC (.int 30))) (gN 6) bodyT (envL sc x1 b dl ml nll x6 x7 x8) s = .nx (envL sc x1 b dl ml nll y6 y7 y8) s' := by
  obtain ⟨ρ', s', e, y6, y7, y8, e1, _⟩ := forGo_inv (chk := fun _ => True) (g := gN 6) (body := bodyT) (fun i ρ s' => ∃ y6 y7 y8, ρ = envL sc x1 b dl ml nll y6 y7 y8 ∧ Wd s' b (cC_ dl ml nll d1 m1 n1 d2 m2 n2) d1 m1 n1 d2 m2 n2 i) (rngD 0 30) 0 (fun _ _ _ _ => trivial) (fun i d hd ρ s' ⟨y6, y7, y8, e1, w'⟩ => by
    obtain ⟨hi, e⟩ := rng_nth hd
    subst e1 e
    simp only [Nat.zero_add] at w' ⊢
    obtain ⟨z7, z8, s2, e2, w2⟩ := body_turn (sc := sc) (x1 := x1) (x6 := some (.int (i : Int))) (x7 := y7) (x8 := y8) w' (by omega)
    exact ⟨_, rfl, _, s2, .inl e2, _, z7, z8, rfl, w2⟩) (envL sc x1 b dl ml nll x6 x7 x8) s ⟨x6, x7, x8, rfl, w⟩
  subst e1
  exact ⟨y6, y7, y8, s', by rw [sFor_ap, rng_30, fE_ok]; exact e⟩
noncomputable abbrev bodyK : PM.S := (sSeq (sSet 2 (cCall m__law_bag [(cVar 0), (cVar 1)]))
      (sSeq (sSet 3 (cNew (cLst [(cMake 0 m_Disk_init []), (cMake 0 m_Disk_init [])])))
      (sSeq (sSet 4 (cNew (cLst [(cCall m__law_disk []), (cCall m__law_disk [])])))
      (sSeq (sSet 5 (cNew (cLst [(cNew (cLst [(cC (.int 0)), (cC (.int 1)), (cC (.int 2)), (cC (.int 3)), (cC (.int 4))])), (cNew (cLst [(cC (.int 0)), (cC (.int 1)), (cC (.int 2)), (cC (.int 7)), (cC (.int 9))]))]))) (sFor (cRng1 (cC (.int 30))) (gN 6) bodyT)))))
theorem round_ok (xs : List Int) (k : Nat) (s : Sto) (x2 x3 x4 x5 x6 x7 x8 : Option D) :
    ∃ y2 y3 y4 y5 y6 y7 y8 s', bodyK
      [some (.con (xs.map .int)), some (.int (k : Int)), x2, x3, x4, x5, x6, x7, x8] s = .nx [some (.con (xs.map .int)), some (.int (k : Int)), y2, y3, y4, y5, y6, y7, y8] s' := by
  obtain ⟨x, y, z, e1⟩ := bag_ok xs k s
  have a1 : sSet 2 (cCall m__law_bag [(cVar 0), (cVar 1)]) [some (.con (xs.map .int)), some (.int (k : Int)), x2, x3, x4, x5, x6, x7, x8] s = .nx [some (.con (xs.map .int)), some (.int (k : Int)), some (.loc s.length), x3, x4, x5, x6, x7, x8] (s ++ [bagO x y z]) := by simp [e1]
  have w := wd_start s x y z _ _ _ _ rfl rfl rfl rfl
  obtain ⟨y6, y7, y8, s', e⟩ := turns (sc := some (.con (xs.map .int))) (x1 := some (.int (k : Int))) (x6 := x6) (x7 := x7) (x8 := x8) w
  exact ⟨_, _, _, _, y6, y7, y8, s', (sSeq_nx a1).trans ((sSeq_nx (w_disks _ _)).trans ((sSeq_nx (w_models _ _)).trans ((sSeq_nx (w_numbers _ _)).trans e)))⟩
theorem law_holds : ∀ ns : List Int, ns.length ≤ 63 → ∃ st, m_law [.con (ns.map D.int)] [] = .ok (.bl true) st := by
  intro ns hl
  have hn : ∃ n : Nat, cRng1 (cOp2 min2D (cOp2 max2D (cB1 lenD (cVar 0)) (cC (.int 1))) (cC (.int 3))) [some (.con (ns.map .int)), none, none, none, none, none, none, none, none] [] = .ok ⟨fun _ => True, rngD 0 n⟩ [] := by
    have ln : lenD (.con (ns.map D.int)) [] = .ok (.int ns.length) [] := by simp [lenD]
    have e : cOp2 min2D (cOp2 max2D (cB1 lenD (cVar 0)) (cC (.int 1))) (cC (.int 3)) [some (.con (ns.map .int)), none, none, none, none, none, none, none, none] [] = .ok (.int (min (max (ns.length : Int) 1) 3)) [] := by
      simp [ln, max2D, min2D]
    refine ⟨(min (max (ns.length : Int) 1) 3).toNat, ?_⟩
    rw [cRng1_ap, e, R.bind_ok]
    simp only [rng1D]
    rw [if_pos ⟨by omega, by omega⟩]
  obtain ⟨n, hn⟩ := hn
  have loop : ∃ ρ' s', forGo (fun _ => True) (gN 1) bodyK (rngD 0 n) [some (.con (ns.map .int)), none, none, none, none, none, none, none, none] [] = .nx ρ' s' ∧ ∃ x1 x2 x3 x4 x5 x6 x7 x8, ρ' = [some (.con (ns.map .int)), x1, x2, x3, x4, x5, x6, x7, x8] :=
    forGo_inv (fun i ρ s' => ∃ x1 x2 x3 x4 x5 x6 x7 x8, ρ = [some (.con (ns.map .int)), x1, x2, x3, x4, x5, x6, x7, x8]) (rngD 0 n) 0 (fun _ _ _ _ => trivial) (fun i d hd ρ s' ⟨x1, x2, x3, x4, x5, x6, x7, x8, e1⟩ => by
      obtain ⟨hi, e⟩ := rng_nth hd
      subst e1 e
      obtain ⟨y2, y3, y4, y5, y6, y7, y8, s2, e2⟩ := round_ok ns i s' x2 x3 x4 x5 x6 x7 x8
      exact ⟨_, rfl, _, s2, .inl e2, _, _, _, _, _, _, _, _, rfl⟩) _ _ ⟨_, _, _, _, _, _, _, _, rfl⟩
  obtain ⟨ρ', s', e, _⟩ := loop
  have eb : b_law [some (.con (ns.map .int)), none, none, none, none, none, none, none, none] [] = .rt (.bl true) s' := by
    unfold b_law
    have a : sFor (cRng1 (cOp2 min2D (cOp2 max2D (cB1 lenD (cVar 0)) (cC (.int 1))) (cC (.int 3)))) (gN 1) bodyK [some (.con (ns.map .int)), none, none, none, none, none, none, none, none] [] = .nx ρ' s' := by rw [sFor_ap, hn, fE_ok]; exact e
    exact (sSeq_nx a).trans rfl
  show ∃ st, gcR [] (outR (b_law [some (.con (ns.map .int)), none, none, none, none, none, none, none, none] [])) = .ok (.bl true) st
  rw [eb]
  refine ⟨[], ?_⟩
  exact gcR_pure (st := []) (g := s') rfl
end PMl

set_option Elab.async false
set_option linter.all false
set_option maxRecDepth 100000
set_option maxHeartbeats 4000000
/-! the walk of k25 (printed by gen.py) -/
namespace PMl
open PySem PySem.Spec PyProof.Rows L2 PM
def top (i : Nat) : Stmt := PySem.Challenge.pw_latemoves_k25_disks_by_the_rules.main.body.getD i (.Pass ⟨0, 0, 0, 0⟩)
abbrev s__law_is_same : Stmt := top 10
abbrev s_Disk_read : Stmt := inClass (top 6) 8
abbrev s_Disk_numbers : Stmt := inClass (top 6) 7
abbrev s_Disk_is_fallen : Stmt := inClass (top 6) 2
abbrev s__law_is_right : Stmt := top 16
abbrev s_torn : Stmt := top 5
abbrev s_choice : Stmt := top 4
abbrev s_Disk_rise : Stmt := inClass (top 6) 9
abbrev s__law_torn : Stmt := top 14
abbrev s__law_rise : Stmt := top 15
abbrev s__law_draw : Stmt := top 9
abbrev s_Disk_arm : Stmt := inClass (top 6) 1
abbrev s_Disk__falls : Stmt := inClass (top 6) 3
abbrev s_Disk_append : Stmt := inClass (top 6) 4
abbrev s_Disk_drop : Stmt := inClass (top 6) 5
abbrev s_Disk_flush : Stmt := inClass (top 6) 6
abbrev s__law_told_deed : Stmt := top 13
abbrev s__law_deed : Stmt := top 12
abbrev s__law_turn : Stmt := top 17
abbrev s__law_disk : Stmt := top 11
abbrev s_Disk_init : Stmt := inClass (top 6) 0
abbrev s__law_bag : Stmt := top 8
abbrev s_law : Stmt := top 18
structure Tx (K : Frag) (mg : Str → Option Value) (ca : Nat → Addr) : Prop where
  f__law_is_same : TopF K mg "_law_is_same" s__law_is_same
  f_Disk_read : MetF K (ca 0) "read" "Disk.read" s_Disk_read
  f_Disk_numbers : MetF K (ca 0) "numbers" "Disk.numbers" s_Disk_numbers
  f_Disk_is_fallen : MetF K (ca 0) "is_fallen" "Disk.is_fallen" s_Disk_is_fallen
  f__law_is_right : TopF K mg "_law_is_right" s__law_is_right
  f_torn : TopF K mg "torn" s_torn
  f_choice : TopF K mg "choice" s_choice
  f_Disk_rise : MetF K (ca 0) "rise" "Disk.rise" s_Disk_rise
  f__law_torn : TopF K mg "_law_torn" s__law_torn
  f__law_rise : TopF K mg "_law_rise" s__law_rise
  f__law_draw : TopF K mg "_law_draw" s__law_draw
  f_Disk_arm : MetF K (ca 0) "arm" "Disk.arm" s_Disk_arm
  f_Disk__falls : MetF K (ca 0) "_falls" "Disk._falls" s_Disk__falls
  f_Disk_append : MetF K (ca 0) "append" "Disk.append" s_Disk_append
  f_Disk_drop : MetF K (ca 0) "drop" "Disk.drop" s_Disk_drop
  f_Disk_flush : MetF K (ca 0) "flush" "Disk.flush" s_Disk_flush
  f__law_told_deed : TopF K mg "_law_told_deed" s__law_told_deed
  f__law_deed : TopF K mg "_law_deed" s__law_deed
  f__law_turn : TopF K mg "_law_turn" s__law_turn
  f__law_disk : TopF K mg "_law_disk" s__law_disk
  f_Disk_init : MkF K mg (ca 0) "Disk" "Disk.__init__" s_Disk_init
  f__law_bag : TopF K mg "_law_bag" s__law_bag
  f_law : TopF K mg "law" s_law
  fl__fallen : ∀ c ∈ ([0] : List Nat), Cls K (ca c) ∧ NoAttr K (ca c) "_fallen"
  fl__left : ∀ c ∈ ([0] : List Nat), Cls K (ca c) ∧ NoAttr K (ca c) "_left"
  fl__sure : ∀ c ∈ ([0] : List Nat), Cls K (ca c) ∧ NoAttr K (ca c) "_sure"
  fl__there : ∀ c ∈ ([0] : List Nat), Cls K (ca c) ∧ NoAttr K (ca c) "_there"
  z_all : mg "all" = none
  z_bool : mg "bool" = none
  z_dict : mg "dict" = none
  z_int : mg "int" = none
  z_isinstance : mg "isinstance" = none
  z_len : mg "len" = none
  z_list : mg "list" = none
  z_max : mg "max" = none
  z_min : mg "min" = none
  z_range : mg "range" = none
  z_set : mg "set" = none
  z_sorted : mg "sorted" = none
  z_str : mg "str" = none
  z_tuple : mg "tuple" = none
  e_Fallen : ExF K mg (ca 2) "Fallen"
  x_Fallen_Fallen : PySem.W.exmOne K (.ref (ca 2)) (.ref (ca 2)) = some true
section
variable {P : Program} {w : World} {K : Frag} {mg : Str → Option Value} {base : Heap} {ca : Nat → Addr}
theorem mt_ok_Fallen (T : Tx K mg ca) : ∀ c b, mt_Fallen c = some b → PySem.W.exmOne K (.ref (ca c)) (.ref (ca 2)) = some b := by
  intro c b h
  unfold mt_Fallen at h
  split at h
  · cases h; exact T.x_Fallen_Fallen
  · cases h
theorem sc__law_is_same : FnScope ["told", "due", "k"] ["told", "due"] (defScope s__law_is_same) := ⟨rfl, rfl, rfl, by decide +kernel, rfl, by decide +kernel, by decide +kernel⟩
theorem fn__law_is_same (T : Tx K mg ca) : ∀ n {f : Addr} {fd : FuncData}, Fun K "_law_is_same" "_law_is_same" s__law_is_same f fd → FnOk P w K mg base (L2.CX P w) (n + 0) f fd ["told", "due"] (spOf K ca 2 (m__law_is_same n)) := by
  intro n
  induction n with
  | zero => exact fun _ => fn_bad
  | succ n ihn =>
    intro f fd F
    have ih : Fn P w K mg base ca (n + 0) "_law_is_same" ["told", "due"] (m__law_is_same n) := Fn.of T.f__law_is_same (fun _ _ _ _ _ _ us hl => match us, hl with | [_, _], _ => rfl) fun f fd F => ihn F
    rw [show n + 1 + 0 = n + 0 + 1 by omega]
    have sc := sc__law_is_same
    refine fn_okn (k := n + 0) (n := 3) (p := 2) (s := b__law_is_same (m__law_is_same n)) F sc rfl rfl fun cdv A outer s0 H E hr ok => ?_
    have hu1 := hu1_of hr
    have hu64 := hu64_of hr
    have hu65 := hu65_of hr
    exact (qf_cons (qf_if (qt_truth (qe_isi (t := .tuple) (fun z => nomatch z) (qe_var 1) rfl T.z_isinstance rfl T.z_tuple (by decide +kernel))) (qf_cons (qf_if (qt_w (qw_or (qt_not (qt_truth (qe_isi (t := .tuple) (fun z => nomatch z) (qe_var 0) rfl T.z_isinstance rfl T.z_tuple (by decide +kernel)))) (qw_or1 (qt_cmp (d_ne hu64) (qe_len (qe_var 0) rfl T.z_len) (qe_len (qe_var 1) rfl T.z_len) rfl)))) (qf_one (qf_ret qe_bl)) qf_nil)
  (qf_one (qf_ret (qe_all rfl (qm_l (ql_comp (t := (.one 2)) (own := [("k", 2)]) rfl sc.nd (qi_range1 rfl T.z_range (qe_len (qe_var 1) rfl T.z_len)) (blkOk_by (N := ["told", "due", "k"]) (sc := defScope s__law_is_same) (by decide +kernel)) (fun _ _ _ _ _ => pg_name (i := 2) sc.nd rfl (Or.inl rfl)) (fun _ _ _ _ _ => qts_nil) (fun _ _ _ _ _ => (qe_call ih hr (Ok.blk rfl) (qa_cons (qe_ix hu1 (qe_var 0) (qe_var 2)) (qa_cons (qe_ix hu1 (qe_var 1) (qe_var 2)) qa_nil)) rfl)) (by decide))) rfl T.z_all)))) qf_nil)
  (qf_cons (qf_if (qt_truth (qe_isi (t := .str) (fun z => nomatch z) (qe_var 1) rfl T.z_isinstance rfl T.z_str (by decide +kernel))) (qf_one (qf_ret (qe_and (qe_isi (t := .str) (fun z => nomatch z) (qe_var 0) rfl T.z_isinstance rfl T.z_str (by decide +kernel)) (qe_one (qe_cmp (d_eq hu64) (qe_var 0) (qe_var 1) rfl))))) qf_nil)
  (qf_cons (qf_if (qt_cmp d_isN (qe_var 1) qe_non rfl) (qf_one (qf_ret (qe_cmp d_isN (qe_var 0) qe_non rfl))) qf_nil)
  (qf_one (qf_ret (qe_and (qe_isi (t := .int) (fun z => nomatch z) (qe_var 0) rfl T.z_isinstance rfl T.z_int (by decide +kernel)) (qe_and (qe_not (qe_isi (t := .bool) (fun z => nomatch z) (qe_var 0) rfl T.z_isinstance rfl T.z_bool (by decide +kernel))) (qe_one (qe_cmp (d_eq hu64) (qe_var 0) (qe_var 1) rfl)))))))))
theorem ok__law_is_same (T : Tx K mg ca) (n : Nat) : Fn P w K mg base ca (n + 0) "_law_is_same" ["told", "due"] (m__law_is_same n) := Fn.of T.f__law_is_same (fun _ _ _ _ _ _ us hl => match us, hl with | [_, _], _ => rfl) fun f fd F => fn__law_is_same T n F
theorem sc_Disk_read : FnScope ["self", "number"] ["self", "number"] (defScope s_Disk_read) := ⟨rfl, rfl, rfl, by decide +kernel, rfl, by decide +kernel, by decide +kernel⟩
theorem fn_Disk_read (T : Tx K mg ca) {f : Addr} {fd : FuncData} (F : Fun K "read" "Disk.read" s_Disk_read f fd) : FnOk P w K mg base (L2.CX P w) 1 f fd ["self", "number"] (spOf K ca 2 m_Disk_read) := by
  have sc := sc_Disk_read
  refine fn_okn (k := 0) (n := 2) (p := 2) (s := b_Disk_read) F sc rfl rfl fun cdv A outer s0 H E hr ok => ?_
  have hu1 := hu1_of hr
  have hu64 := hu64_of hr
  have hu65 := hu65_of hr
  exact (qf_cons (qf_if (qt_cmp (d_notIn' hu65) (qe_var 1) (qe_fld T.fl__there (qe_var 0)) rfl) (qf_one (qf_ret (qe_tup qa_nil))) qf_nil)
  (qf_one (qf_ret (qe_ix hu1 (qe_fld T.fl__there (qe_var 0)) (qe_var 1)))))
theorem ok_Disk_read (T : Tx K mg ca) : Md P w K mg base ca 1 0 "read" ["self", "number"] m_Disk_read := Md.of T.f_Disk_read (fun _ _ _ _ _ _ us hl => match us, hl with | [_, _], _ => rfl) fun f fd F => fn_Disk_read T F
theorem sc_Disk_numbers : FnScope ["self"] ["self"] (defScope s_Disk_numbers) := ⟨rfl, rfl, rfl, by decide +kernel, rfl, by decide +kernel, by decide +kernel⟩
theorem fn_Disk_numbers (T : Tx K mg ca) {f : Addr} {fd : FuncData} (F : Fun K "numbers" "Disk.numbers" s_Disk_numbers f fd) : FnOk P w K mg base (L2.CX P w) 1 f fd ["self"] (spOf K ca 1 m_Disk_numbers) := by
  have sc := sc_Disk_numbers
  refine fn_okn (k := 0) (n := 1) (p := 1) (s := b_Disk_numbers) F sc rfl rfl fun cdv A outer s0 H E hr ok => ?_
  have hu1 := hu1_of hr
  have hu64 := hu64_of hr
  have hu65 := hu65_of hr
  exact (qf_one (qf_ret (qe_tuple (qs_l (ql_sortedD rfl (qe_fld T.fl__there (qe_var 0)) rfl T.z_sorted)) rfl T.z_tuple)))
theorem ok_Disk_numbers (T : Tx K mg ca) : Md P w K mg base ca 1 0 "numbers" ["self"] m_Disk_numbers := Md.of T.f_Disk_numbers (fun _ _ _ _ _ _ us hl => match us, hl with | [_], _ => rfl) fun f fd F => fn_Disk_numbers T F
theorem sc_Disk_is_fallen : FnScope ["self"] ["self"] (defScope s_Disk_is_fallen) := ⟨rfl, rfl, rfl, by decide +kernel, rfl, by decide +kernel, by decide +kernel⟩
theorem fn_Disk_is_fallen (T : Tx K mg ca) {f : Addr} {fd : FuncData} (F : Fun K "is_fallen" "Disk.is_fallen" s_Disk_is_fallen f fd) : FnOk P w K mg base (L2.CX P w) 1 f fd ["self"] (spOf K ca 1 m_Disk_is_fallen) := by
  have sc := sc_Disk_is_fallen
  refine fn_okn (k := 0) (n := 1) (p := 1) (s := b_Disk_is_fallen) F sc rfl rfl fun cdv A outer s0 H E hr ok => ?_
  have hu1 := hu1_of hr
  have hu64 := hu64_of hr
  have hu65 := hu65_of hr
  exact (qf_one (qf_ret (qe_fld T.fl__fallen (qe_var 0))))
theorem ok_Disk_is_fallen (T : Tx K mg ca) : Md P w K mg base ca 1 0 "is_fallen" ["self"] m_Disk_is_fallen := Md.of T.f_Disk_is_fallen (fun _ _ _ _ _ _ us hl => match us, hl with | [_], _ => rfl) fun f fd F => fn_Disk_is_fallen T F
theorem sc__law_is_right : FnScope ["disk", "model", "numbers", "fallen", "number"] ["disk", "model"] (defScope s__law_is_right) := ⟨rfl, rfl, rfl, by decide +kernel, rfl, by decide +kernel, by decide +kernel⟩
theorem fn__law_is_right (T : Tx K mg ca) {f : Addr} {fd : FuncData} (F : Fun K "_law_is_right" "_law_is_right" s__law_is_right f fd) : FnOk P w K mg base (L2.CX P w) 4 f fd ["disk", "model"] (spOf K ca 2 m__law_is_right) := by
  have sc := sc__law_is_right
  refine fn_okn (k := 3) (n := 5) (p := 2) (s := b__law_is_right) F sc rfl rfl fun cdv A outer s0 H E hr ok => ?_
  have hu1 := hu1_of hr
  have hu64 := hu64_of hr
  have hu65 := hu65_of hr
  exact (qf_cons (qf_set 2 sc.nd (qe_tuple (qs_l (ql_sorted (qm_l (ql_lock (cOp2 getD (cVar 1) (cC (.str "there"))) (ql_comp (t := (.one 4)) (own := [("number", 4)]) rfl sc.nd (qi_keys (qe_ix hu1 (qe_var 1) qe_str)) (blkOk_by (N := ["disk", "model", "numbers", "fallen", "number"]) (sc := defScope s__law_is_right) (by decide +kernel)) (fun _ _ _ _ _ => pg_name (i := 4) sc.nd rfl (Or.inl rfl)) (fun _ _ _ _ _ => qts_nil) (fun _ _ _ _ _ => (qe_var 4)) (by decide)))) rfl T.z_sorted)) rfl T.z_tuple))
  (qf_cons (qf_set 3 sc.nd (qe_meth0 (ok_Disk_is_fallen T) (hr.mono (by decide)) ok (qe_var 0)))
  (qf_cons (qf_if (qt_w (qw_or (qt_not (qt_truth (qe_call (ok__law_is_same T 3) (hr.mono (by decide)) ok (qa_cons (qe_meth0 (ok_Disk_numbers T) (hr.mono (by decide)) ok (qe_var 0)) (qa_cons (qe_var 2) qa_nil)) rfl))) (qw_or (qt_not (qt_truth (qe_isi (t := .bool) (fun z => nomatch z) (qe_var 3) rfl T.z_isinstance rfl T.z_bool (by decide +kernel)))) (qw_or1 (qt_cmp (d_ne hu64) (qe_var 3) (qe_ix hu1 (qe_var 1) qe_str) rfl))))) (qf_one (qf_ret qe_bl)) qf_nil)
  (qf_cons (qf_for ok (qi_e (qe_var 2)) (qg_name 4 sc.nd) (qf_one (qf_if (qt_not (qt_truth (qe_call (ok__law_is_same T 3) (hr.mono (by decide)) ok (qa_cons (qe_meth (ok_Disk_read T) (hr.mono (by decide)) ok (qe_var 0) (qa_cons (qe_var 4) qa_nil)) (qa_cons (qe_ix hu1 (qe_ix hu1 (qe_var 1) qe_str) (qe_var 4)) qa_nil)) rfl))) (qf_one (qf_ret qe_bl)) qf_nil)))
  (qf_one (qf_ret (qe_call (ok__law_is_same T 3) (hr.mono (by decide)) ok (qa_cons (qe_meth (ok_Disk_read T) (hr.mono (by decide)) ok (qe_var 0) (qa_cons qe_int qa_nil)) (qa_cons (qe_tup qa_nil) qa_nil)) rfl)))))))
theorem ok__law_is_right (T : Tx K mg ca) : Fn P w K mg base ca 4 "_law_is_right" ["disk", "model"] m__law_is_right := Fn.of T.f__law_is_right (fun _ _ _ _ _ _ us hl => match us, hl with | [_, _], _ => rfl) fun f fd F => fn__law_is_right T F
theorem sc_torn : FnScope ["tail", "keep", "change", "kept", "place", "byte"] ["tail", "keep", "change"] (defScope s_torn) := ⟨rfl, rfl, rfl, by decide +kernel, rfl, by decide +kernel, by decide +kernel⟩
theorem fn_torn (T : Tx K mg ca) {f : Addr} {fd : FuncData} (F : Fun K "torn" "torn" s_torn f fd) : FnOk P w K mg base (L2.CX P w) 1 f fd ["tail", "keep", "change"] (spOf K ca 3 m_torn) := by
  have sc := sc_torn
  refine fn_okn (k := 0) (n := 6) (p := 3) (s := b_torn) F sc rfl rfl fun cdv A outer s0 H E hr ok => ?_
  have hu1 := hu1_of hr
  have hu64 := hu64_of hr
  have hu65 := hu65_of hr
  exact (qf_cons (qf_set 3 sc.nd (qe_slice (qe_var 0) qo_none (qo_some (qe_op2 d_mod (qe_var 1) (qe_op2 d_add (qe_len (qe_var 0) rfl T.z_len) qe_int)))))
  (qf_cons (qf_if (qt_w (qw_and (qt_cmp d_gt (qe_len (qe_var 3) rfl T.z_len) qe_int rfl) (qw_and1 (qt_cmp (d_eq hu64) (qe_op2 d_mod (qe_var 2) qe_int) qe_int rfl)))) (qf_cons (qf_set 4 sc.nd (qe_op2 d_mod (qe_op2 d_fdiv (qe_var 2) qe_int) (qe_len (qe_var 3) rfl T.z_len)))
  (qf_cons (qf_set 5 sc.nd (qe_op2 d_mod (qe_op2 d_add (qe_op2 d_add (qe_ix hu1 (qe_var 3) (qe_var 4)) qe_int) (qe_op2 d_mod (qe_op2 d_fdiv (qe_op2 d_fdiv (qe_var 2) qe_int) (qe_len (qe_var 3) rfl T.z_len)) qe_int)) qe_int))
  (qf_one (qf_set 3 sc.nd (qe_op2 d_add (qe_op2 d_add (qe_slice (qe_var 3) qo_none (qo_some (qe_var 4))) (qe_tup (qa_cons (qe_var 5) qa_nil))) (qe_slice (qe_var 3) (qo_some (qe_op2 d_add (qe_var 4) qe_int)) qo_none)))))) qf_nil)
  (qf_one (qf_ret (qe_var 3)))))
theorem ok_torn (T : Tx K mg ca) : Fn P w K mg base ca 1 "torn" ["tail", "keep", "change"] m_torn := Fn.of T.f_torn (fun _ _ _ _ _ _ us hl => match us, hl with | [_, _, _], _ => rfl) fun f fd F => fn_torn T F
theorem sc_choice : FnScope ["choices", "at"] ["choices", "at"] (defScope s_choice) := ⟨rfl, rfl, rfl, by decide +kernel, rfl, by decide +kernel, by decide +kernel⟩
theorem fn_choice (T : Tx K mg ca) {f : Addr} {fd : FuncData} (F : Fun K "choice" "choice" s_choice f fd) : FnOk P w K mg base (L2.CX P w) 1 f fd ["choices", "at"] (spOf K ca 2 m_choice) := by
  have sc := sc_choice
  refine fn_okn (k := 0) (n := 2) (p := 2) (s := b_choice) F sc rfl rfl fun cdv A outer s0 H E hr ok => ?_
  have hu1 := hu1_of hr
  have hu64 := hu64_of hr
  have hu65 := hu65_of hr
  exact (qf_cons (qf_if (qt_cmp d_lt (qe_var 1) (qe_len (qe_var 0) rfl T.z_len) rfl) (qf_one (qf_ret (qe_ix hu1 (qe_var 0) (qe_var 1)))) qf_nil)
  (qf_one (qf_ret qe_int)))
theorem ok_choice (T : Tx K mg ca) : Fn P w K mg base ca 1 "choice" ["choices", "at"] m_choice := Fn.of T.f_choice (fun _ _ _ _ _ _ us hl => match us, hl with | [_, _], _ => rfl) fun f fd F => fn_choice T F
theorem sc_Disk_rise : FnScope ["self", "choices", "there", "at", "number", "row", "tail"] ["self", "choices"] (defScope s_Disk_rise) := ⟨rfl, rfl, rfl, by decide +kernel, rfl, by decide +kernel, by decide +kernel⟩
theorem fn_Disk_rise (T : Tx K mg ca) {f : Addr} {fd : FuncData} (F : Fun K "rise" "Disk.rise" s_Disk_rise f fd) : FnOk P w K mg base (L2.CX P w) 2 f fd ["self", "choices"] (spOf K ca 2 m_Disk_rise) := by
  have sc := sc_Disk_rise
  refine fn_okn (k := 1) (n := 7) (p := 2) (s := b_Disk_rise) F sc rfl rfl fun cdv A outer s0 H E hr ok => ?_
  have hu1 := hu1_of hr
  have hu64 := hu64_of hr
  have hu65 := hu65_of hr
  exact (qf_cons (qf_set 2 sc.nd (qe_newD qd_new))
  (qf_cons (qf_set 3 sc.nd qe_int)
  (qf_cons (qf_for ok (qi_l (ql_sortedSet rfl (qm_l (ql_catL (ql_listD rfl (qe_fld T.fl__sure (qe_var 0)) rfl T.z_list) (qm_l (ql_listD rfl (qe_fld T.fl__there (qe_var 0)) rfl T.z_list)))) rfl T.z_sorted rfl T.z_set)) (qg_name 4 sc.nd) (qf_cons (qf_if (qt_cmp (d_notIn' hu65) (qe_var 4) (qe_fld T.fl__there (qe_var 0)) rfl) (qf_cons (qf_if (qt_cmp (d_eq hu64) (qe_op2 d_mod (qe_call (ok_choice T) (hr.mono (by decide)) ok (qa_cons (qe_var 1) (qa_cons (qe_var 3) qa_nil)) rfl) qe_int) qe_int rfl) (qf_one (qf_sub hu1 (qe_var 2) (qe_var 4) (qe_ix hu1 (qe_fld T.fl__sure (qe_var 0)) (qe_var 4)))) qf_nil)
  (qf_cons (qf_aug 3 sc.nd d_iadd qe_int)
  (qf_one qf_cont))) qf_nil)
  (qf_cons (qf_set 5 sc.nd (qe_get2 hu1 (qe_fld T.fl__sure (qe_var 0)) (qe_var 4) (qe_tup qa_nil)))
  (qf_cons (qf_set 6 sc.nd (qe_slice (qe_ix hu1 (qe_fld T.fl__there (qe_var 0)) (qe_var 4)) (qo_some (qe_len (qe_var 5) rfl T.z_len)) qo_none))
  (qf_cons (qf_if (qt_cmp d_gt (qe_len (qe_var 6) rfl T.z_len) qe_int rfl) (qf_cons (qf_set 5 sc.nd (qe_op2 d_add (qe_var 5) (qe_call (ok_torn T) (hr.mono (by decide)) ok (qa_cons (qe_var 6) (qa_cons (qe_call (ok_choice T) (hr.mono (by decide)) ok (qa_cons (qe_var 1) (qa_cons (qe_var 3) qa_nil)) rfl) (qa_cons (qe_call (ok_choice T) (hr.mono (by decide)) ok (qa_cons (qe_var 1) (qa_cons (qe_op2 d_add (qe_var 3) qe_int) qa_nil)) rfl) qa_nil))) rfl)))
  (qf_one (qf_aug 3 sc.nd d_iadd qe_int))) qf_nil)
  (qf_one (qf_if (qt_w (qw_or (qt_cmp (d_in' hu65) (qe_var 4) (qe_fld T.fl__sure (qe_var 0)) rfl) (qw_or1 (qt_cmp d_gt (qe_len (qe_var 5) rfl T.z_len) qe_int rfl)))) (qf_one (qf_sub hu1 (qe_var 2) (qe_var 4) (qe_var 5))) qf_nil)))))))
  (qf_cons (qf_fld T.fl__there (qe_var 0) (qe_var 2))
  (qf_cons (qf_fld T.fl__sure (qe_var 0) (qe_newD (qd_lock (cVar 2) (qd_comp (t := (.one 4)) (own := [("number", 4)]) rfl sc.nd (qi_keys (qe_var 2)) (blkOk_by (N := ["self", "choices", "there", "at", "number", "row", "tail"]) (sc := defScope s_Disk_rise) (by decide +kernel)) (fun _ _ _ _ _ => pg_name (i := 4) sc.nd rfl (Or.inl rfl)) (fun _ _ _ _ _ => qts_nil) (fun _ _ _ _ _ => (qe_var 4)) (fun _ _ _ _ _ => (qe_ix hu1 (qe_var 2) (qe_var 4))) (by decide)))))
  (qf_cons (qf_fld T.fl__left (qe_var 0) qe_int)
  (qf_one (qf_fld T.fl__fallen (qe_var 0) qe_bl))))))))
theorem ok_Disk_rise (T : Tx K mg ca) : Md P w K mg base ca 2 0 "rise" ["self", "choices"] m_Disk_rise := Md.of T.f_Disk_rise (fun _ _ _ _ _ _ us hl => match us, hl with | [_, _], _ => rfl) fun f fd F => fn_Disk_rise T F
theorem sc__law_torn : FnScope ["tail", "keep", "change", "kept", "place"] ["tail", "keep", "change"] (defScope s__law_torn) := ⟨rfl, rfl, rfl, by decide +kernel, rfl, by decide +kernel, by decide +kernel⟩
theorem fn__law_torn (T : Tx K mg ca) {f : Addr} {fd : FuncData} (F : Fun K "_law_torn" "_law_torn" s__law_torn f fd) : FnOk P w K mg base (L2.CX P w) 1 f fd ["tail", "keep", "change"] (spOf K ca 3 m__law_torn) := by
  have sc := sc__law_torn
  refine fn_okn (k := 0) (n := 5) (p := 3) (s := b__law_torn) F sc rfl rfl fun cdv A outer s0 H E hr ok => ?_
  have hu1 := hu1_of hr
  have hu64 := hu64_of hr
  have hu65 := hu65_of hr
  exact (qf_cons (qf_set 3 sc.nd (qe_new (ql_list (qs_e (qe_slice (qe_var 0) qo_none (qo_some (qe_op2 d_mod (qe_intOf (qe_var 1) rfl T.z_int) (qe_op2 d_add (qe_len (qe_var 0) rfl T.z_len) qe_int))))) rfl T.z_list)))
  (qf_cons (qf_if (qt_w (qw_and (qt_cmp (d_ne hu64) (qe_var 3) (qe_new (ql_lst qa_nil)) rfl) (qw_and1 (qt_cmp (d_eq hu64) (qe_op2 d_mod (qe_intOf (qe_var 2) rfl T.z_int) qe_int) qe_int rfl)))) (qf_cons (qf_set 4 sc.nd (qe_op2 d_mod (qe_intOf (qe_op2 d_fdiv (qe_var 2) qe_int) rfl T.z_int) (qe_len (qe_var 3) rfl T.z_len)))
  (qf_one (qf_sub hu1 (qe_var 3) (qe_var 4) (qe_op2 d_mod (qe_intOf (qe_op2 d_add (qe_op2 d_add (qe_ix hu1 (qe_var 3) (qe_var 4)) qe_int) (qe_op2 d_mod (qe_intOf (qe_op2 d_fdiv (qe_op2 d_fdiv (qe_var 2) qe_int) (qe_len (qe_var 3) rfl T.z_len)) rfl T.z_int) qe_int)) rfl T.z_int) qe_int)))) qf_nil)
  (qf_one (qf_ret (qe_tuple (qs_e (qe_var 3)) rfl T.z_tuple)))))
theorem ok__law_torn (T : Tx K mg ca) : Fn P w K mg base ca 1 "_law_torn" ["tail", "keep", "change"] m__law_torn := Fn.of T.f__law_torn (fun _ _ _ _ _ _ us hl => match us, hl with | [_, _, _], _ => rfl) fun f fd F => fn__law_torn T F
theorem sc__law_rise : FnScope ["model", "choices", "left", "there", "number", "row", "tail"] ["model", "choices"] (defScope s__law_rise) := ⟨rfl, rfl, rfl, by decide +kernel, rfl, by decide +kernel, by decide +kernel⟩
theorem fn__law_rise (T : Tx K mg ca) {f : Addr} {fd : FuncData} (F : Fun K "_law_rise" "_law_rise" s__law_rise f fd) : FnOk P w K mg base (L2.CX P w) 2 f fd ["model", "choices"] (spOf K ca 2 m__law_rise) := by
  have sc := sc__law_rise
  refine fn_okn (k := 1) (n := 7) (p := 2) (s := b__law_rise) F sc rfl rfl fun cdv A outer s0 H E hr ok => ?_
  have hu1 := hu1_of hr
  have hu64 := hu64_of hr
  have hu65 := hu65_of hr
  exact (qf_cons (qf_set 2 sc.nd (qe_new (ql_catL (ql_list (qs_e (qe_var 1)) rfl T.z_list) (qm_l (ql_rep (ql_lst (qa_cons qe_int qa_nil)) qe_int)))))
  (qf_cons (qf_set 3 sc.nd (qe_newD qd_new))
  (qf_cons (qf_for ok (qi_range1 rfl T.z_range qe_int) (qg_name 4 sc.nd) (qf_one (qf_if (qt_w (qw_and (qt_cmp (d_in' hu65) (qe_var 4) (qe_ix hu1 (qe_var 0) qe_str) rfl) (qw_and1 (qt_cmp (d_notIn' hu65) (qe_var 4) (qe_ix hu1 (qe_var 0) qe_str) rfl)))) (qf_cons (qf_if (qt_cmp (d_eq hu64) (qe_op2 d_mod (qe_intOf (qe_ix hu1 (qe_var 2) qe_int) rfl T.z_int) qe_int) qe_int rfl) (qf_one (qf_sub hu1 (qe_var 3) (qe_var 4) (qe_ix hu1 (qe_ix hu1 (qe_var 0) qe_str) (qe_var 4)))) qf_nil)
  (qf_one (qf_set 2 sc.nd (qe_slice (qe_var 2) (qo_some qe_int) qo_none)))) (qf_one (qf_if (qt_cmp (d_in' hu65) (qe_var 4) (qe_ix hu1 (qe_var 0) qe_str) rfl) (qf_cons (qf_set 5 sc.nd (qe_get2 hu1 (qe_ix hu1 (qe_var 0) qe_str) (qe_var 4) (qe_tup qa_nil)))
  (qf_cons (qf_set 6 sc.nd (qe_slice (qe_ix hu1 (qe_ix hu1 (qe_var 0) qe_str) (qe_var 4)) (qo_some (qe_len (qe_var 5) rfl T.z_len)) qo_none))
  (qf_cons (qf_if (qt_cmp d_gt (qe_len (qe_var 6) rfl T.z_len) qe_int rfl) (qf_cons (qf_set 5 sc.nd (qe_op2 d_add (qe_var 5) (qe_call (ok__law_torn T) (hr.mono (by decide)) ok (qa_cons (qe_var 6) (qa_cons (qe_ix hu1 (qe_var 2) qe_int) (qa_cons (qe_ix hu1 (qe_var 2) qe_int) qa_nil))) rfl)))
  (qf_one (qf_set 2 sc.nd (qe_slice (qe_var 2) (qo_some qe_int) qo_none)))) qf_nil)
  (qf_one (qf_if (qt_w (qw_or (qt_cmp (d_in' hu65) (qe_var 4) (qe_ix hu1 (qe_var 0) qe_str) rfl) (qw_or1 (qt_cmp d_gt (qe_len (qe_var 5) rfl T.z_len) qe_int rfl)))) (qf_one (qf_sub hu1 (qe_var 3) (qe_var 4) (qe_var 5))) qf_nil))))) qf_nil)))))
  (qf_cons (qf_sub hu1 (qe_var 0) qe_str (qe_var 3))
  (qf_cons (qf_sub hu1 (qe_var 0) qe_str (qe_newD (qd_dict (qe_var 3) rfl T.z_dict)))
  (qf_cons (qf_sub hu1 (qe_var 0) qe_str qe_int)
  (qf_one (qf_sub hu1 (qe_var 0) qe_str qe_bl))))))))
theorem ok__law_rise (T : Tx K mg ca) : Fn P w K mg base ca 2 "_law_rise" ["model", "choices"] m__law_rise := Fn.of T.f__law_rise (fun _ _ _ _ _ _ us hl => match us, hl with | [_, _], _ => rfl) fun f fd F => fn__law_rise T F
theorem sc__law_draw : FnScope ["bag", "many", "seed", "rest"] ["bag", "many"] (defScope s__law_draw) := ⟨rfl, rfl, rfl, by decide +kernel, rfl, by decide +kernel, by decide +kernel⟩
theorem fn__law_draw (T : Tx K mg ca) {f : Addr} {fd : FuncData} (F : Fun K "_law_draw" "_law_draw" s__law_draw f fd) : FnOk P w K mg base (L2.CX P w) 1 f fd ["bag", "many"] (spOf K ca 2 m__law_draw) := by
  have sc := sc__law_draw
  refine fn_okn (k := 0) (n := 4) (p := 2) (s := b__law_draw) F sc rfl rfl fun cdv A outer s0 H E hr ok => ?_
  have hu1 := hu1_of hr
  have hu64 := hu64_of hr
  have hu65 := hu65_of hr
  exact (qf_cons (qf_if (qt_cmp (d_eq hu64) (qe_ix hu1 (qe_var 0) qe_int) qe_int rfl) (qf_cons (qf_set 2 sc.nd (qe_op2 d_mod (qe_intOf (qe_op2 d_add (qe_op2 d_add (qe_op2 d_mul (qe_ix hu1 (qe_var 0) qe_int) qe_int) (qe_op2 d_mul (qe_ix hu1 (qe_var 0) qe_int) qe_int)) qe_int) rfl T.z_int) qe_int))
  (qf_cons (qf_sub hu1 (qe_var 0) qe_int (qe_op2 d_add (qe_op2 d_mul (qe_var 2) qe_int) (qe_op2 d_mod (qe_intOf (qe_op2 d_add (qe_op2 d_mul (qe_var 2) (qe_var 2)) (qe_op2 d_mul (qe_ix hu1 (qe_var 0) qe_int) qe_int)) rfl T.z_int) qe_int)))
  (qf_one (qf_sub hu1 (qe_var 0) qe_int (qe_var 2))))) qf_nil)
  (qf_cons (qf_set 3 sc.nd (qe_ix hu1 (qe_var 0) qe_int))
  (qf_cons (qf_sub hu1 (qe_var 0) qe_int (qe_op2 d_fdiv (qe_var 3) (qe_var 1)))
  (qf_one (qf_ret (qe_op2 d_mod (qe_intOf (qe_var 3) rfl T.z_int) (qe_var 1)))))))
theorem ok__law_draw (T : Tx K mg ca) : Fn P w K mg base ca 1 "_law_draw" ["bag", "many"] m__law_draw := Fn.of T.f__law_draw (fun _ _ _ _ _ _ us hl => match us, hl with | [_, _], _ => rfl) fun f fd F => fn__law_draw T F
theorem sc_Disk_arm : FnScope ["self", "many"] ["self", "many"] (defScope s_Disk_arm) := ⟨rfl, rfl, rfl, by decide +kernel, rfl, by decide +kernel, by decide +kernel⟩
theorem fn_Disk_arm (T : Tx K mg ca) {f : Addr} {fd : FuncData} (F : Fun K "arm" "Disk.arm" s_Disk_arm f fd) : FnOk P w K mg base (L2.CX P w) 1 f fd ["self", "many"] (spOf K ca 2 m_Disk_arm) := by
  have sc := sc_Disk_arm
  refine fn_okn (k := 0) (n := 2) (p := 2) (s := b_Disk_arm) F sc rfl rfl fun cdv A outer s0 H E hr ok => ?_
  have hu1 := hu1_of hr
  have hu64 := hu64_of hr
  have hu65 := hu65_of hr
  exact (qf_one (qf_fld T.fl__left (qe_var 0) (qe_var 1)))
theorem ok_Disk_arm (T : Tx K mg ca) : Md P w K mg base ca 1 0 "arm" ["self", "many"] m_Disk_arm := Md.of T.f_Disk_arm (fun _ _ _ _ _ _ us hl => match us, hl with | [_, _], _ => rfl) fun f fd F => fn_Disk_arm T F
theorem sc_Disk__falls : FnScope ["self"] ["self"] (defScope s_Disk__falls) := ⟨rfl, rfl, rfl, by decide +kernel, rfl, by decide +kernel, by decide +kernel⟩
theorem fn_Disk__falls (T : Tx K mg ca) {f : Addr} {fd : FuncData} (F : Fun K "_falls" "Disk._falls" s_Disk__falls f fd) : FnOk P w K mg base (L2.CX P w) 1 f fd ["self"] (spOf K ca 1 m_Disk__falls) := by
  have sc := sc_Disk__falls
  refine fn_okn (k := 0) (n := 1) (p := 1) (s := b_Disk__falls) F sc rfl rfl fun cdv A outer s0 H E hr ok => ?_
  have hu1 := hu1_of hr
  have hu64 := hu64_of hr
  have hu65 := hu65_of hr
  exact (qf_cons (qf_if (qt_truth (qe_fld T.fl__fallen (qe_var 0))) (qf_one (qf_raise0 ok (exC_of T.e_Fallen) rfl)) qf_nil)
  (qf_cons (qf_if (qt_cmp d_gt (qe_fld T.fl__left (qe_var 0)) qe_int rfl) (qf_cons (qf_fldaug T.fl__left in_isub (qe_var 0) qe_int)
  (qf_one (qf_fld T.fl__fallen (qe_var 0) (qe_cmp (d_eq hu64) (qe_fld T.fl__left (qe_var 0)) qe_int rfl)))) qf_nil)
  (qf_one (qf_ret (qe_fld T.fl__fallen (qe_var 0))))))
theorem ok_Disk__falls (T : Tx K mg ca) : Md P w K mg base ca 1 0 "_falls" ["self"] m_Disk__falls := Md.of T.f_Disk__falls (fun _ _ _ _ _ _ us hl => match us, hl with | [_], _ => rfl) fun f fd F => fn_Disk__falls T F
theorem sc_Disk_append : FnScope ["self", "number", "row", "falls"] ["self", "number", "row"] (defScope s_Disk_append) := ⟨rfl, rfl, rfl, by decide +kernel, rfl, by decide +kernel, by decide +kernel⟩
theorem fn_Disk_append (T : Tx K mg ca) {f : Addr} {fd : FuncData} (F : Fun K "append" "Disk.append" s_Disk_append f fd) : FnOk P w K mg base (L2.CX P w) 2 f fd ["self", "number", "row"] (spOf K ca 3 m_Disk_append) := by
  have sc := sc_Disk_append
  refine fn_okn (k := 1) (n := 4) (p := 3) (s := b_Disk_append) F sc rfl rfl fun cdv A outer s0 H E hr ok => ?_
  have hu1 := hu1_of hr
  have hu64 := hu64_of hr
  have hu65 := hu65_of hr
  exact (qf_cons (qf_set 3 sc.nd (qe_meth0 (ok_Disk__falls T) (hr.mono (by decide)) ok (qe_var 0)))
  (qf_cons (qf_sub hu1 (qe_fld T.fl__there (qe_var 0)) (qe_var 1) (qe_op2 d_add (qe_meth (ok_Disk_read T) (hr.mono (by decide)) ok (qe_var 0) (qa_cons (qe_var 1) qa_nil)) (qe_tuple (qs_e (qe_var 2)) rfl T.z_tuple)))
  (qf_one (qf_if (qt_truth (qe_var 3)) (qf_one (qf_raise0 ok (exC_of T.e_Fallen) rfl)) qf_nil))))
theorem ok_Disk_append (T : Tx K mg ca) : Md P w K mg base ca 2 0 "append" ["self", "number", "row"] m_Disk_append := Md.of T.f_Disk_append (fun _ _ _ _ _ _ us hl => match us, hl with | [_, _, _], _ => rfl) fun f fd F => fn_Disk_append T F
theorem sc_Disk_drop : FnScope ["self", "number", "falls"] ["self", "number"] (defScope s_Disk_drop) := ⟨rfl, rfl, rfl, by decide +kernel, rfl, by decide +kernel, by decide +kernel⟩
theorem fn_Disk_drop (T : Tx K mg ca) {f : Addr} {fd : FuncData} (F : Fun K "drop" "Disk.drop" s_Disk_drop f fd) : FnOk P w K mg base (L2.CX P w) 2 f fd ["self", "number"] (spOf K ca 2 m_Disk_drop) := by
  have sc := sc_Disk_drop
  refine fn_okn (k := 1) (n := 3) (p := 2) (s := b_Disk_drop) F sc rfl rfl fun cdv A outer s0 H E hr ok => ?_
  have hu1 := hu1_of hr
  have hu64 := hu64_of hr
  have hu65 := hu65_of hr
  exact (qf_cons (qf_set 2 sc.nd (qe_meth0 (ok_Disk__falls T) (hr.mono (by decide)) ok (qe_var 0)))
  (qf_cons (qf_if (qt_cmp (d_in' hu65) (qe_var 1) (qe_fld T.fl__there (qe_var 0)) rfl) (qf_one (qf_del (qe_fld T.fl__there (qe_var 0)) (qe_var 1))) qf_nil)
  (qf_one (qf_if (qt_truth (qe_var 2)) (qf_one (qf_raise0 ok (exC_of T.e_Fallen) rfl)) qf_nil))))
theorem ok_Disk_drop (T : Tx K mg ca) : Md P w K mg base ca 2 0 "drop" ["self", "number"] m_Disk_drop := Md.of T.f_Disk_drop (fun _ _ _ _ _ _ us hl => match us, hl with | [_, _], _ => rfl) fun f fd F => fn_Disk_drop T F
theorem sc_Disk_flush : FnScope ["self", "number"] ["self"] (defScope s_Disk_flush) := ⟨rfl, rfl, rfl, by decide +kernel, rfl, by decide +kernel, by decide +kernel⟩
theorem fn_Disk_flush (T : Tx K mg ca) {f : Addr} {fd : FuncData} (F : Fun K "flush" "Disk.flush" s_Disk_flush f fd) : FnOk P w K mg base (L2.CX P w) 2 f fd ["self"] (spOf K ca 1 m_Disk_flush) := by
  have sc := sc_Disk_flush
  refine fn_okn (k := 1) (n := 2) (p := 1) (s := b_Disk_flush) F sc rfl rfl fun cdv A outer s0 H E hr ok => ?_
  have hu1 := hu1_of hr
  have hu64 := hu64_of hr
  have hu65 := hu65_of hr
  exact (qf_cons (qf_if (qt_truth (qe_meth0 (ok_Disk__falls T) (hr.mono (by decide)) ok (qe_var 0))) (qf_one (qf_raise0 ok (exC_of T.e_Fallen) rfl)) qf_nil)
  (qf_one (qf_fld T.fl__sure (qe_var 0) (qe_newD (qd_lock (cB1 (fldOf [0] "_there") (cVar 0)) (qd_comp (t := (.one 1)) (own := [("number", 1)]) rfl sc.nd (qi_keys (qe_fld T.fl__there (qe_var 0))) (blkOk_by (N := ["self", "number"]) (sc := defScope s_Disk_flush) (by decide +kernel)) (fun _ _ _ _ _ => pg_name (i := 1) sc.nd rfl (Or.inl rfl)) (fun _ _ _ _ _ => qts_nil) (fun _ _ _ _ _ => (qe_var 1)) (fun _ _ _ _ _ => (qe_ix hu1 (qe_fld T.fl__there (qe_var 0)) (qe_var 1))) (by decide)))))))
theorem ok_Disk_flush (T : Tx K mg ca) : Md P w K mg base ca 2 0 "flush" ["self"] m_Disk_flush := Md.of T.f_Disk_flush (fun _ _ _ _ _ _ us hl => match us, hl with | [_], _ => rfl) fun f fd F => fn_Disk_flush T F
theorem sc__law_told_deed : FnScope ["disk", "deed", "number", "row", "told"] ["disk", "deed", "number", "row"] (defScope s__law_told_deed) := ⟨rfl, rfl, rfl, by decide +kernel, rfl, by decide +kernel, by decide +kernel⟩
theorem fn__law_told_deed (T : Tx K mg ca) {f : Addr} {fd : FuncData} (F : Fun K "_law_told_deed" "_law_told_deed" s__law_told_deed f fd) : FnOk P w K mg base (L2.CX P w) 3 f fd ["disk", "deed", "number", "row"] (spOf K ca 4 m__law_told_deed) := by
  have sc := sc__law_told_deed
  refine fn_okn (k := 2) (n := 5) (p := 4) (s := b__law_told_deed) F sc rfl rfl fun cdv A outer s0 H E hr ok => ?_
  have hu1 := hu1_of hr
  have hu64 := hu64_of hr
  have hu65 := hu65_of hr
  exact (qf_cons (qf_try ok rfl rfl ⟨rfl, by decide, .inl T.e_Fallen.g⟩ (mt_ok_Fallen T) (fun _ _ _ ok2 => (qf_one (qf_if (qt_cmp (d_eq hu64) (qe_var 1) qe_str rfl) (qf_one (qf_set 4 sc.nd (qe_meth (ok_Disk_append T) (hr.mono (by decide)) ok2 (qe_var 0) (qa_cons (qe_var 2) (qa_cons (qe_var 3) qa_nil))))) (qf_one (qf_if (qt_cmp (d_eq hu64) (qe_var 1) qe_str rfl) (qf_one (qf_set 4 sc.nd (qe_meth (ok_Disk_drop T) (hr.mono (by decide)) ok2 (qe_var 0) (qa_cons (qe_var 2) qa_nil)))) (qf_one (qf_set 4 sc.nd (qe_meth0 (ok_Disk_flush T) (hr.mono (by decide)) ok2 (qe_var 0))))))))) (fun _ _ _ _ _ => (qf_one (qf_ret qe_bl))))
  (qf_one (qf_ret (qe_cmp d_isN (qe_var 4) qe_non rfl))))
theorem ok__law_told_deed (T : Tx K mg ca) : Fn P w K mg base ca 3 "_law_told_deed" ["disk", "deed", "number", "row"] m__law_told_deed := Fn.of T.f__law_told_deed (fun _ _ _ _ _ _ us hl => match us, hl with | [_, _, _, _], _ => rfl) fun f fd F => fn__law_told_deed T F
theorem sc__law_deed : FnScope ["model", "deed", "number", "row", "there", "one"] ["model", "deed", "number", "row"] (defScope s__law_deed) := ⟨rfl, rfl, rfl, by decide +kernel, rfl, by decide +kernel, by decide +kernel⟩
theorem fn__law_deed (T : Tx K mg ca) {f : Addr} {fd : FuncData} (F : Fun K "_law_deed" "_law_deed" s__law_deed f fd) : FnOk P w K mg base (L2.CX P w) 1 f fd ["model", "deed", "number", "row"] (spOf K ca 4 m__law_deed) := by
  have sc := sc__law_deed
  refine fn_okn (k := 0) (n := 6) (p := 4) (s := b__law_deed) F sc rfl rfl fun cdv A outer s0 H E hr ok => ?_
  have hu1 := hu1_of hr
  have hu64 := hu64_of hr
  have hu65 := hu65_of hr
  exact (qf_cons (qf_if (qt_truth (qe_ix hu1 (qe_var 0) qe_str)) (qf_one (qf_ret qe_bl)) qf_nil)
  (qf_cons (qf_if (qt_cmp d_gt (qe_ix hu1 (qe_var 0) qe_str) qe_int rfl) (qf_cons (qf_sub hu1 (qe_var 0) qe_str (qe_op2 d_sub (qe_ix hu1 (qe_var 0) qe_str) qe_int))
  (qf_one (qf_sub hu1 (qe_var 0) qe_str (qe_cmp (d_eq hu64) (qe_ix hu1 (qe_var 0) qe_str) qe_int rfl)))) qf_nil)
  (qf_cons (qf_if (qt_cmp (d_eq hu64) (qe_var 1) qe_str rfl) (qf_cons (qf_set 4 sc.nd (qe_newD (qd_dict (qe_ix hu1 (qe_var 0) qe_str) rfl T.z_dict)))
  (qf_cons (qf_sub hu1 (qe_var 4) (qe_var 2) (qe_op2 d_add (qe_get2 hu1 (qe_var 4) (qe_var 2) (qe_tup qa_nil)) (qe_var 3)))
  (qf_one (qf_sub hu1 (qe_var 0) qe_str (qe_var 4))))) qf_nil)
  (qf_cons (qf_if (qt_cmp (d_eq hu64) (qe_var 1) qe_str rfl) (qf_one (qf_sub hu1 (qe_var 0) qe_str (qe_newD (qd_dictL rfl (qm_l (ql_lock (cOp2 getD (cVar 0) (cC (.str "there"))) (ql_comp (t := (.one 5)) (own := [("one", 5)]) rfl sc.nd (qi_keys (qe_ix hu1 (qe_var 0) qe_str)) (blkOk_by (N := ["model", "deed", "number", "row", "there", "one"]) (sc := defScope s__law_deed) (by decide +kernel)) (fun _ _ _ _ _ => pg_name (i := 5) sc.nd rfl (Or.inl rfl)) (fun _ _ _ _ _ => qts_one (qt_cmp (d_ne hu64) (qe_var 5) (qe_var 2) rfl)) (fun _ _ _ _ _ => (qe_tup (qa_cons (qe_var 5) (qa_cons (qe_ix hu1 (qe_ix hu1 (qe_var 0) qe_str) (qe_var 5)) qa_nil)))) (by decide)))) rfl T.z_dict)))) qf_nil)
  (qf_cons (qf_if (qt_w (qw_and (qt_cmp (d_eq hu64) (qe_var 1) qe_str rfl) (qw_and1 (qt_not (qt_truth (qe_ix hu1 (qe_var 0) qe_str)))))) (qf_one (qf_sub hu1 (qe_var 0) qe_str (qe_newD (qd_dict (qe_ix hu1 (qe_var 0) qe_str) rfl T.z_dict)))) qf_nil)
  (qf_one (qf_ret (qe_not (qe_ix hu1 (qe_var 0) qe_str)))))))))
theorem ok__law_deed (T : Tx K mg ca) : Fn P w K mg base ca 1 "_law_deed" ["model", "deed", "number", "row"] m__law_deed := Fn.of T.f__law_deed (fun _ _ _ _ _ _ us hl => match us, hl with | [_, _, _, _], _ => rfl) fun f fd F => fn__law_deed T F
theorem sc__law_turn : FnScope ["bag", "disk", "model", "numbers", "pick", "place", "row", "due", "told", "many", "some", "choices", "k"] ["bag", "disk", "model", "numbers"] (defScope s__law_turn) := ⟨rfl, rfl, rfl, by decide +kernel, rfl, by decide +kernel, by decide +kernel⟩
theorem fn__law_turn (T : Tx K mg ca) {f : Addr} {fd : FuncData} (F : Fun K "_law_turn" "_law_turn" s__law_turn f fd) : FnOk P w K mg base (L2.CX P w) 4 f fd ["bag", "disk", "model", "numbers"] (spOf K ca 4 m__law_turn) := by
  have sc := sc__law_turn
  refine fn_okn (k := 3) (n := 13) (p := 4) (s := b__law_turn) F sc rfl rfl fun cdv A outer s0 H E hr ok => ?_
  have hu1 := hu1_of hr
  have hu64 := hu64_of hr
  have hu65 := hu65_of hr
  exact (qf_cons (qf_set 4 sc.nd (qe_call (ok__law_draw T) (hr.mono (by decide)) ok (qa_cons (qe_var 0) (qa_cons qe_int qa_nil)) rfl))
  (qf_cons (qf_set 5 sc.nd (qe_call (ok__law_draw T) (hr.mono (by decide)) ok (qa_cons (qe_var 0) (qa_cons qe_int qa_nil)) rfl))
  (qf_cons (qf_if (qt_cmp d_lt (qe_var 4) qe_int rfl) (qf_cons (qf_set 6 sc.nd (qe_tuple (qs_l (ql_comp (t := (.one 12)) (own := [("k", 12)]) rfl sc.nd (qi_range1 rfl T.z_range (qe_call (ok__law_draw T) (hr.mono (by decide)) ok (qa_cons (qe_var 0) (qa_cons qe_int qa_nil)) rfl)) (blkOk_by (N := ["bag", "disk", "model", "numbers", "pick", "place", "row", "due", "told", "many", "some", "choices", "k"]) (sc := defScope s__law_turn) (by decide +kernel)) (fun _ _ _ _ _ => pg_name (i := 12) sc.nd rfl (Or.inl rfl)) (fun _ _ _ _ _ => qts_nil) (fun _ _ _ _ _ => (qe_call (ok__law_draw T) (hr.mono (by decide)) (Ok.blk rfl) (qa_cons (qe_var 0) (qa_cons qe_int qa_nil)) rfl)) (by decide))) rfl T.z_tuple))
  (qf_one (qf_ret (qe_cmp (d_eq hu64) (qe_call (ok__law_told_deed T) (hr.mono (by decide)) ok (qa_cons (qe_var 1) (qa_cons qe_str (qa_cons (qe_ix hu1 (qe_var 3) (qe_var 5)) (qa_cons (qe_var 6) qa_nil)))) rfl) (qe_call (ok__law_deed T) (hr.mono (by decide)) ok (qa_cons (qe_var 2) (qa_cons qe_str (qa_cons (qe_ix hu1 (qe_var 3) (qe_var 5)) (qa_cons (qe_var 6) qa_nil)))) rfl) rfl)))) qf_nil)
  (qf_cons (qf_if (qt_cmp (d_eq hu64) (qe_var 4) qe_int rfl) (qf_cons (qf_set 7 sc.nd (qe_call (ok__law_deed T) (hr.mono (by decide)) ok (qa_cons (qe_var 2) (qa_cons qe_str (qa_cons (qe_ix hu1 (qe_var 3) (qe_var 5)) (qa_cons (qe_tup qa_nil) qa_nil)))) rfl))
  (qf_cons (qf_set 8 sc.nd (qe_call (ok__law_told_deed T) (hr.mono (by decide)) ok (qa_cons (qe_var 1) (qa_cons qe_str (qa_cons (qe_ix hu1 (qe_var 3) (qe_var 5)) (qa_cons (qe_tup qa_nil) qa_nil)))) rfl))
  (qf_cons (qf_sub hu1 (qe_var 3) (qe_var 5) (qe_op2 d_add (qe_max rfl (qm_e (qe_var 3)) rfl T.z_max) qe_int))
  (qf_one (qf_ret (qe_cmp (d_eq hu64) (qe_var 8) (qe_var 7) rfl)))))) qf_nil)
  (qf_cons (qf_if (qt_cmp d_lt (qe_var 4) qe_int rfl) (qf_one (qf_ret (qe_cmp (d_eq hu64) (qe_call (ok__law_told_deed T) (hr.mono (by decide)) ok (qa_cons (qe_var 1) (qa_cons qe_str (qa_cons qe_int (qa_cons (qe_tup qa_nil) qa_nil)))) rfl) (qe_call (ok__law_deed T) (hr.mono (by decide)) ok (qa_cons (qe_var 2) (qa_cons qe_str (qa_cons qe_int (qa_cons (qe_tup qa_nil) qa_nil)))) rfl) rfl))) qf_nil)
  (qf_cons (qf_if (qt_cmp (d_eq hu64) (qe_var 4) qe_int rfl) (qf_cons (qf_set 9 sc.nd (qe_ixL (ql_lst (qa_cons qe_int (qa_cons qe_int (qa_cons qe_int (qa_cons qe_int (qa_cons qe_int qa_nil)))))) (qe_call (ok__law_draw T) (hr.mono (by decide)) ok (qa_cons (qe_var 0) (qa_cons qe_int qa_nil)) rfl)))
  (qf_cons (qf_if (qt_not (qt_truth (qe_ix hu1 (qe_var 2) qe_str))) (qf_cons (qf_sub hu1 (qe_var 2) qe_str (qe_var 9))
  (qf_one (qf_ret (qe_cmp d_isN (qe_meth (ok_Disk_arm T) (hr.mono (by decide)) ok (qe_var 1) (qa_cons (qe_var 9) qa_nil)) qe_non rfl)))) qf_nil)
  (qf_one (qf_ret qe_bl)))) qf_nil)
  (qf_cons (qf_set 10 sc.nd (qe_call (ok__law_draw T) (hr.mono (by decide)) ok (qa_cons (qe_var 0) (qa_cons qe_int qa_nil)) rfl))
  (qf_cons (qf_set 11 sc.nd (qe_tuple (qs_l (ql_comp (t := (.one 12)) (own := [("k", 12)]) rfl sc.nd (qi_range1 rfl T.z_range (qe_var 10)) (blkOk_by (N := ["bag", "disk", "model", "numbers", "pick", "place", "row", "due", "told", "many", "some", "choices", "k"]) (sc := defScope s__law_turn) (by decide +kernel)) (fun _ _ _ _ _ => pg_name (i := 12) sc.nd rfl (Or.inl rfl)) (fun _ _ _ _ _ => qts_nil) (fun _ _ _ _ _ => (qe_ixL (ql_lst (qa_cons (qe_call (ok__law_draw T) (hr.mono (by decide)) (Ok.blk rfl) (qa_cons (qe_var 0) (qa_cons qe_int qa_nil)) rfl) (qa_cons (qe_call (ok__law_draw T) (hr.mono (by decide)) (Ok.blk rfl) (qa_cons (qe_var 0) (qa_cons qe_int qa_nil)) rfl) (qa_cons qe_int qa_nil)))) (qe_call (ok__law_draw T) (hr.mono (by decide)) (Ok.blk rfl) (qa_cons (qe_var 0) (qa_cons qe_int qa_nil)) rfl))) (by decide))) rfl T.z_tuple))
  (qf_cons (qf_exp (qe_call (ok__law_rise T) (hr.mono (by decide)) ok (qa_cons (qe_var 2) (qa_cons (qe_var 11) qa_nil)) rfl))
  (qf_one (qf_ret (qe_cmp d_isN (qe_meth (ok_Disk_rise T) (hr.mono (by decide)) ok (qe_var 1) (qa_cons (qe_var 11) qa_nil)) qe_non rfl))))))))))))
theorem ok__law_turn (T : Tx K mg ca) : Fn P w K mg base ca 4 "_law_turn" ["bag", "disk", "model", "numbers"] m__law_turn := Fn.of T.f__law_turn (fun _ _ _ _ _ _ us hl => match us, hl with | [_, _, _, _], _ => rfl) fun f fd F => fn__law_turn T F
theorem sc__law_disk : FnScope [] [] (defScope s__law_disk) := ⟨rfl, rfl, rfl, by decide +kernel, rfl, by decide +kernel, by decide +kernel⟩
theorem fn__law_disk (T : Tx K mg ca) {f : Addr} {fd : FuncData} (F : Fun K "_law_disk" "_law_disk" s__law_disk f fd) : FnOk P w K mg base (L2.CX P w) 1 f fd [] (spOf K ca 0 m__law_disk) := by
  have sc := sc__law_disk
  refine fn_okn (k := 0) (n := 0) (p := 0) (s := b__law_disk) F sc rfl rfl fun cdv A outer s0 H E hr ok => ?_
  have hu1 := hu1_of hr
  have hu64 := hu64_of hr
  have hu65 := hu65_of hr
  exact (qf_one (qf_ret (qe_newD (qd_disp (.cons qe_str (qe_newD qd_new) (.cons qe_str (qe_newD qd_new) (.cons qe_str qe_int (.cons qe_str qe_bl .nil))))))))
theorem ok__law_disk (T : Tx K mg ca) : Fn P w K mg base ca 1 "_law_disk" [] m__law_disk := Fn.of T.f__law_disk (fun _ _ _ _ _ _ us hl => match us, hl with | [], _ => rfl) fun f fd F => fn__law_disk T F
theorem sc_Disk_init : FnScope ["self"] ["self"] (defScope s_Disk_init) := ⟨rfl, rfl, rfl, by decide +kernel, rfl, by decide +kernel, by decide +kernel⟩
theorem fn_Disk_init (T : Tx K mg ca) {f : Addr} {fd : FuncData} (F : Fun K "__init__" "Disk.__init__" s_Disk_init f fd) : FnOk P w K mg base (L2.CX P w) 1 f fd ["self"] (spOf K ca 1 m_Disk_init) := by
  have sc := sc_Disk_init
  refine fn_okn (k := 0) (n := 1) (p := 1) (s := b_Disk_init) F sc rfl rfl fun cdv A outer s0 H E hr ok => ?_
  have hu1 := hu1_of hr
  have hu64 := hu64_of hr
  have hu65 := hu65_of hr
  exact (qf_cons (qf_fld T.fl__sure (qe_var 0) (qe_newD qd_new))
  (qf_cons (qf_fld T.fl__there (qe_var 0) (qe_newD qd_new))
  (qf_cons (qf_fld T.fl__left (qe_var 0) qe_int)
  (qf_one (qf_fld T.fl__fallen (qe_var 0) qe_bl)))))
theorem ok_Disk_init (T : Tx K mg ca) : Cm P w K mg base ca 1 0 "Disk" ["self"] m_Disk_init := Cm.of T.f_Disk_init (fun _ _ _ _ _ _ us hl => match us, hl with | [_], _ => rfl) fun f fd F => fn_Disk_init T F
theorem sc__law_bag : FnScope ["script", "k", "cell"] ["script", "k"] (defScope s__law_bag) := ⟨rfl, rfl, rfl, by decide +kernel, rfl, by decide +kernel, by decide +kernel⟩
theorem fn__law_bag (T : Tx K mg ca) {f : Addr} {fd : FuncData} (F : Fun K "_law_bag" "_law_bag" s__law_bag f fd) : FnOk P w K mg base (L2.CX P w) 1 f fd ["script", "k"] (spOf K ca 2 m__law_bag) := by
  have sc := sc__law_bag
  refine fn_okn (k := 0) (n := 3) (p := 2) (s := b__law_bag) F sc rfl rfl fun cdv A outer s0 H E hr ok => ?_
  have hu1 := hu1_of hr
  have hu64 := hu64_of hr
  have hu65 := hu65_of hr
  exact (qf_cons (qf_set 2 sc.nd qe_int)
  (qf_cons (qf_if (qt_cmp d_lt (qe_var 1) (qe_len (qe_var 0) rfl T.z_len) rfl) (qf_one (qf_set 2 sc.nd (qe_intOf (qe_ix hu1 (qe_var 0) (qe_var 1)) rfl T.z_int))) qf_nil)
  (qf_cons (qf_if (qt_cmp d_ge (qe_var 2) (qe_op2 d_pow qe_int qe_int) rfl) (qf_one (qf_ret (qe_new (ql_lst (qa_cons (qe_var 2) (qa_cons (qe_var 2) (qa_cons (qe_var 1) qa_nil))))))) qf_nil)
  (qf_one (qf_ret (qe_new (ql_lst (qa_cons qe_int (qa_cons (qe_var 2) (qa_cons (qe_var 1) qa_nil))))))))))
theorem ok__law_bag (T : Tx K mg ca) : Fn P w K mg base ca 1 "_law_bag" ["script", "k"] m__law_bag := Fn.of T.f__law_bag (fun _ _ _ _ _ _ us hl => match us, hl with | [_, _], _ => rfl) fun f fd F => fn__law_bag T F
theorem sc_law : FnScope ["script", "k", "bag", "disks", "models", "numbers", "turn", "one", "other"] ["script"] (defScope s_law) := ⟨rfl, rfl, rfl, by decide +kernel, rfl, by decide +kernel, by decide +kernel⟩
theorem fn_law (T : Tx K mg ca) {f : Addr} {fd : FuncData} (F : Fun K "law" "law" s_law f fd) : FnOk P w K mg base (L2.CX P w) 5 f fd ["script"] (spOf K ca 1 m_law) := by
  have sc := sc_law
  refine fn_okn (k := 4) (n := 9) (p := 1) (s := b_law) F sc rfl rfl fun cdv A outer s0 H E hr ok => ?_
  have hu1 := hu1_of hr
  have hu64 := hu64_of hr
  have hu65 := hu65_of hr
  exact (qf_cons (qf_for ok (qi_range1 rfl T.z_range (qe_min2 rfl (qe_max2 rfl (qe_len (qe_var 0) rfl T.z_len) qe_int rfl T.z_max) qe_int rfl T.z_min)) (qg_name 1 sc.nd) (qf_cons (qf_set 2 sc.nd (qe_call (ok__law_bag T) (hr.mono (by decide)) ok (qa_cons (qe_var 0) (qa_cons (qe_var 1) qa_nil)) rfl))
  (qf_cons (qf_set 3 sc.nd (qe_new (ql_lst (qa_cons (qe_make0 (ok_Disk_init T) (hr.mono (by decide)) ok rfl) (qa_cons (qe_make0 (ok_Disk_init T) (hr.mono (by decide)) ok rfl) qa_nil)))))
  (qf_cons (qf_set 4 sc.nd (qe_new (ql_lst (qa_cons (qe_call0 (ok__law_disk T) (hr.mono (by decide)) ok rfl) (qa_cons (qe_call0 (ok__law_disk T) (hr.mono (by decide)) ok rfl) qa_nil)))))
  (qf_cons (qf_set 5 sc.nd (qe_new (ql_lst (qa_cons (qe_new (ql_lst (qa_cons qe_int (qa_cons qe_int (qa_cons qe_int (qa_cons qe_int (qa_cons qe_int qa_nil))))))) (qa_cons (qe_new (ql_lst (qa_cons qe_int (qa_cons qe_int (qa_cons qe_int (qa_cons qe_int (qa_cons qe_int qa_nil))))))) qa_nil)))))
  (qf_one (qf_for ok (qi_range1 rfl T.z_range qe_int) (qg_name 6 sc.nd) (qf_cons (qf_set 7 sc.nd (qe_call (ok__law_draw T) (hr.mono (by decide)) ok (qa_cons (qe_var 2) (qa_cons qe_int qa_nil)) rfl))
  (qf_cons (qf_if (qt_not (qt_truth (qe_call (ok__law_turn T) (hr.mono (by decide)) ok (qa_cons (qe_var 2) (qa_cons (qe_ix hu1 (qe_var 3) (qe_var 7)) (qa_cons (qe_ix hu1 (qe_var 4) (qe_var 7)) (qa_cons (qe_ix hu1 (qe_var 5) (qe_var 7)) qa_nil)))) rfl))) (qf_one (qf_ret qe_bl)) qf_nil)
  (qf_one (qf_for ok (qi_range1 rfl T.z_range qe_int) (qg_name 8 sc.nd) (qf_one (qf_if (qt_not (qt_truth (qe_call (ok__law_is_right T) (hr.mono (by decide)) ok (qa_cons (qe_ix hu1 (qe_var 3) (qe_var 8)) (qa_cons (qe_ix hu1 (qe_var 4) (qe_var 8)) qa_nil)) rfl))) (qf_one (qf_ret qe_bl)) qf_nil)))))))))))))
  (qf_one (qf_ret qe_bl)))
theorem ok_law (T : Tx K mg ca) : Fn P w K mg base ca 5 "law" ["script"] m_law := Fn.of T.f_law (fun _ _ _ _ _ _ us hl => match us, hl with | [_], _ => rfl) fun f fd F => fn_law T F
end
end PMl

set_option Elab.async false
set_option linter.all false
set_option maxRecDepth 100000
set_option maxHeartbeats 4000000
/-! the end of k25 (printed by gen.py) -/
namespace PMl
open PySem PySem.Spec PyProof.Rows L2 PM
def caOf (C0 C2 : Addr) : Nat → Addr
  | 0 => C0
  | 2 => C2
  | _ => 0
theorem all_mk {l : PySem.W.OpenLaw} {w : World} {K : Frag} {h : Heap} {mg : Str → Option Value} {fa C0 C2 f0 f1 f2 f3 f4 f5 f6 f7 f8 f9 f10 f11 f12 f13 f14 f15 f16 f17 f18 f19 f20 f21 f22 : Addr} (X : K.In h) (G : h.Ns mainGlobals mg) (hfa : mg "law" = some (.ref fa))
    {od0 od1 od2 od3 od4 od5 od6 od7 od8 od9 od10 od11 od12 od13 od14 od15 od16 od17 od18 od19 od20 od21 od22 an0 an1 an2 an3 an4 an5 an6 an7 an8 an9 an10 an11 an12 an13 an14 an15 an16 an17 an18 an19 an20 an21 an22 : Option Addr} {sl0 sl1 sl2 sl3 sl4 sl5 sl6 sl7 sl8 sl9 sl10 sl11 sl12 sl13 sl14 sl15 sl16 sl17 sl18 sl19 sl20 sl21 sl22 : Array (Option Value)} {oc0 oc1 oc2 oc3 oc4 oc5 oc6 oc7 oc8 oc9 oc10 oc11 oc12 oc13 oc14 oc15 oc16 oc17 oc18 oc19 oc20 oc21 oc22 kV0 kV1 kV2 kV3 kV4 kV5 kV6 kV7 kV8 kV9 kV10 kV11 kV12 kV13 kV14 kV15 kV16 kV17 kV18 kV19 kV20 kV21 kV22 dc0 dc1 dc2 dc3 dc4 dc5 dc6 dc7 dc8 dc9 dc10 dc11 dc12 dc13 dc14 dc15 dc16 dc17 dc18 dc19 dc20 dc21 dc22 pm0 pm1 pm2 pm3 pm4 pm5 pm6 pm7 pm8 pm9 pm10 pm11 pm12 pm13 pm14 pm15 pm16 pm17 pm18 pm19 pm20 pm21 pm22 cd0 cd1 cd2 cd3 cd4 cd5 cd6 cd7 cd8 cd9 cd10 cd11 cd12 cd13 cd14 cd15 cd16 cd17 cd18 cd19 cd20 cd21 cd22 ct0 ct1 ct2 ct3 ct4 ct5 ct6 ct7 ct8 ct9 ct10 ct11 ct12 ct13 ct14 ct15 ct16 ct17 ct18 ct19 ct20 ct21 ct22 : Value}
    (hm : ∀ ns : List Int, ns.length ≤ 63 → ∃ st, m_law [.con (ns.map D.int)] [] = .ok (.bl true) st)
    (a_Disk : PySem.W.nsIn K mainGlobals "Disk" = some (some (.ref C0)))
    (pg_Disk : PySem.W.plainGet K C0 Str.empty = true)
    (hd_Disk : PySem.W.hasDictIn K C0 = true)
    (po_Disk : PySem.W.plainOver K C0 = true)
    (sa_Disk : PySem.W.findIn K (.ref C0) "__setattr__" = some (some (.builtin "object.__setattr__")))
    (mk_Disk : PySem.W.makesIn K C0 = true)
    (kc_Disk : PySem.W.keepIn K (.ref C0) = true)
    (a0 : PySem.W.nsIn K mainGlobals "_law_is_same" = some (some (.ref f0)))
    (l0 : K.lookup f0 = some ⟨oc0, od0, .func (PySem.W.fnOf "_law_is_same" "_law_is_same" (defArgs s__law_is_same) (defBody s__law_is_same) (defScope s__law_is_same) .none kV0 dc0 pm0 an0 cd0 ct0), sl0⟩)
    (c0 : PySem.W.codeIn K cd0 "_law_is_same" = true)
    (k0 : PySem.W.keepIn K (.ref f0) = true)
    (a1 : PySem.W.findIn K (.ref C0) "read" = some (some (.ref f1)))
    (i1 : PySem.W.isFn K (.ref f1) = true)
    (l1 : K.lookup f1 = some ⟨oc1, od1, .func (PySem.W.fnOf "read" "Disk.read" (defArgs s_Disk_read) (defBody s_Disk_read) (defScope s_Disk_read) .none kV1 dc1 pm1 an1 cd1 ct1), sl1⟩)
    (c1 : PySem.W.codeIn K cd1 "Disk.read" = true)
    (k1 : PySem.W.keepIn K (.ref f1) = true)
    (a2 : PySem.W.findIn K (.ref C0) "numbers" = some (some (.ref f2)))
    (i2 : PySem.W.isFn K (.ref f2) = true)
    (l2 : K.lookup f2 = some ⟨oc2, od2, .func (PySem.W.fnOf "numbers" "Disk.numbers" (defArgs s_Disk_numbers) (defBody s_Disk_numbers) (defScope s_Disk_numbers) .none kV2 dc2 pm2 an2 cd2 ct2), sl2⟩)
    (c2 : PySem.W.codeIn K cd2 "Disk.numbers" = true)
    (k2 : PySem.W.keepIn K (.ref f2) = true)
    (a3 : PySem.W.findIn K (.ref C0) "is_fallen" = some (some (.ref f3)))
    (i3 : PySem.W.isFn K (.ref f3) = true)
    (l3 : K.lookup f3 = some ⟨oc3, od3, .func (PySem.W.fnOf "is_fallen" "Disk.is_fallen" (defArgs s_Disk_is_fallen) (defBody s_Disk_is_fallen) (defScope s_Disk_is_fallen) .none kV3 dc3 pm3 an3 cd3 ct3), sl3⟩)
    (c3 : PySem.W.codeIn K cd3 "Disk.is_fallen" = true)
    (k3 : PySem.W.keepIn K (.ref f3) = true)
    (a4 : PySem.W.nsIn K mainGlobals "_law_is_right" = some (some (.ref f4)))
    (l4 : K.lookup f4 = some ⟨oc4, od4, .func (PySem.W.fnOf "_law_is_right" "_law_is_right" (defArgs s__law_is_right) (defBody s__law_is_right) (defScope s__law_is_right) .none kV4 dc4 pm4 an4 cd4 ct4), sl4⟩)
    (c4 : PySem.W.codeIn K cd4 "_law_is_right" = true)
    (k4 : PySem.W.keepIn K (.ref f4) = true)
    (a5 : PySem.W.nsIn K mainGlobals "torn" = some (some (.ref f5)))
    (l5 : K.lookup f5 = some ⟨oc5, od5, .func (PySem.W.fnOf "torn" "torn" (defArgs s_torn) (defBody s_torn) (defScope s_torn) .none kV5 dc5 pm5 an5 cd5 ct5), sl5⟩)
    (c5 : PySem.W.codeIn K cd5 "torn" = true)
    (k5 : PySem.W.keepIn K (.ref f5) = true)
    (a6 : PySem.W.nsIn K mainGlobals "choice" = some (some (.ref f6)))
    (l6 : K.lookup f6 = some ⟨oc6, od6, .func (PySem.W.fnOf "choice" "choice" (defArgs s_choice) (defBody s_choice) (defScope s_choice) .none kV6 dc6 pm6 an6 cd6 ct6), sl6⟩)
    (c6 : PySem.W.codeIn K cd6 "choice" = true)
    (k6 : PySem.W.keepIn K (.ref f6) = true)
    (a7 : PySem.W.findIn K (.ref C0) "rise" = some (some (.ref f7)))
    (i7 : PySem.W.isFn K (.ref f7) = true)
    (l7 : K.lookup f7 = some ⟨oc7, od7, .func (PySem.W.fnOf "rise" "Disk.rise" (defArgs s_Disk_rise) (defBody s_Disk_rise) (defScope s_Disk_rise) .none kV7 dc7 pm7 an7 cd7 ct7), sl7⟩)
    (c7 : PySem.W.codeIn K cd7 "Disk.rise" = true)
    (k7 : PySem.W.keepIn K (.ref f7) = true)
    (a8 : PySem.W.nsIn K mainGlobals "_law_torn" = some (some (.ref f8)))
    (l8 : K.lookup f8 = some ⟨oc8, od8, .func (PySem.W.fnOf "_law_torn" "_law_torn" (defArgs s__law_torn) (defBody s__law_torn) (defScope s__law_torn) .none kV8 dc8 pm8 an8 cd8 ct8), sl8⟩)
    (c8 : PySem.W.codeIn K cd8 "_law_torn" = true)
    (k8 : PySem.W.keepIn K (.ref f8) = true)
    (a9 : PySem.W.nsIn K mainGlobals "_law_rise" = some (some (.ref f9)))
    (l9 : K.lookup f9 = some ⟨oc9, od9, .func (PySem.W.fnOf "_law_rise" "_law_rise" (defArgs s__law_rise) (defBody s__law_rise) (defScope s__law_rise) .none kV9 dc9 pm9 an9 cd9 ct9), sl9⟩)
    (c9 : PySem.W.codeIn K cd9 "_law_rise" = true)
    (k9 : PySem.W.keepIn K (.ref f9) = true)
    (a10 : PySem.W.nsIn K mainGlobals "_law_draw" = some (some (.ref f10)))
    (l10 : K.lookup f10 = some ⟨oc10, od10, .func (PySem.W.fnOf "_law_draw" "_law_draw" (defArgs s__law_draw) (defBody s__law_draw) (defScope s__law_draw) .none kV10 dc10 pm10 an10 cd10 ct10), sl10⟩)
    (c10 : PySem.W.codeIn K cd10 "_law_draw" = true)
    (k10 : PySem.W.keepIn K (.ref f10) = true)
    (a11 : PySem.W.findIn K (.ref C0) "arm" = some (some (.ref f11)))
    (i11 : PySem.W.isFn K (.ref f11) = true)
    (l11 : K.lookup f11 = some ⟨oc11, od11, .func (PySem.W.fnOf "arm" "Disk.arm" (defArgs s_Disk_arm) (defBody s_Disk_arm) (defScope s_Disk_arm) .none kV11 dc11 pm11 an11 cd11 ct11), sl11⟩)
    (c11 : PySem.W.codeIn K cd11 "Disk.arm" = true)
    (k11 : PySem.W.keepIn K (.ref f11) = true)
    (a12 : PySem.W.findIn K (.ref C0) "_falls" = some (some (.ref f12)))
    (i12 : PySem.W.isFn K (.ref f12) = true)
    (l12 : K.lookup f12 = some ⟨oc12, od12, .func (PySem.W.fnOf "_falls" "Disk._falls" (defArgs s_Disk__falls) (defBody s_Disk__falls) (defScope s_Disk__falls) .none kV12 dc12 pm12 an12 cd12 ct12), sl12⟩)
    (c12 : PySem.W.codeIn K cd12 "Disk._falls" = true)
    (k12 : PySem.W.keepIn K (.ref f12) = true)
    (a13 : PySem.W.findIn K (.ref C0) "append" = some (some (.ref f13)))
    (i13 : PySem.W.isFn K (.ref f13) = true)
    (l13 : K.lookup f13 = some ⟨oc13, od13, .func (PySem.W.fnOf "append" "Disk.append" (defArgs s_Disk_append) (defBody s_Disk_append) (defScope s_Disk_append) .none kV13 dc13 pm13 an13 cd13 ct13), sl13⟩)
    (c13 : PySem.W.codeIn K cd13 "Disk.append" = true)
    (k13 : PySem.W.keepIn K (.ref f13) = true)
    (a14 : PySem.W.findIn K (.ref C0) "drop" = some (some (.ref f14)))
    (i14 : PySem.W.isFn K (.ref f14) = true)
    (l14 : K.lookup f14 = some ⟨oc14, od14, .func (PySem.W.fnOf "drop" "Disk.drop" (defArgs s_Disk_drop) (defBody s_Disk_drop) (defScope s_Disk_drop) .none kV14 dc14 pm14 an14 cd14 ct14), sl14⟩)
    (c14 : PySem.W.codeIn K cd14 "Disk.drop" = true)
    (k14 : PySem.W.keepIn K (.ref f14) = true)
    (a15 : PySem.W.findIn K (.ref C0) "flush" = some (some (.ref f15)))
    (i15 : PySem.W.isFn K (.ref f15) = true)
    (l15 : K.lookup f15 = some ⟨oc15, od15, .func (PySem.W.fnOf "flush" "Disk.flush" (defArgs s_Disk_flush) (defBody s_Disk_flush) (defScope s_Disk_flush) .none kV15 dc15 pm15 an15 cd15 ct15), sl15⟩)
    (c15 : PySem.W.codeIn K cd15 "Disk.flush" = true)
    (k15 : PySem.W.keepIn K (.ref f15) = true)
    (a16 : PySem.W.nsIn K mainGlobals "_law_told_deed" = some (some (.ref f16)))
    (l16 : K.lookup f16 = some ⟨oc16, od16, .func (PySem.W.fnOf "_law_told_deed" "_law_told_deed" (defArgs s__law_told_deed) (defBody s__law_told_deed) (defScope s__law_told_deed) .none kV16 dc16 pm16 an16 cd16 ct16), sl16⟩)
    (c16 : PySem.W.codeIn K cd16 "_law_told_deed" = true)
    (k16 : PySem.W.keepIn K (.ref f16) = true)
    (a17 : PySem.W.nsIn K mainGlobals "_law_deed" = some (some (.ref f17)))
    (l17 : K.lookup f17 = some ⟨oc17, od17, .func (PySem.W.fnOf "_law_deed" "_law_deed" (defArgs s__law_deed) (defBody s__law_deed) (defScope s__law_deed) .none kV17 dc17 pm17 an17 cd17 ct17), sl17⟩)
    (c17 : PySem.W.codeIn K cd17 "_law_deed" = true)
    (k17 : PySem.W.keepIn K (.ref f17) = true)
    (a18 : PySem.W.nsIn K mainGlobals "_law_turn" = some (some (.ref f18)))
    (l18 : K.lookup f18 = some ⟨oc18, od18, .func (PySem.W.fnOf "_law_turn" "_law_turn" (defArgs s__law_turn) (defBody s__law_turn) (defScope s__law_turn) .none kV18 dc18 pm18 an18 cd18 ct18), sl18⟩)
    (c18 : PySem.W.codeIn K cd18 "_law_turn" = true)
    (k18 : PySem.W.keepIn K (.ref f18) = true)
    (a19 : PySem.W.nsIn K mainGlobals "_law_disk" = some (some (.ref f19)))
    (l19 : K.lookup f19 = some ⟨oc19, od19, .func (PySem.W.fnOf "_law_disk" "_law_disk" (defArgs s__law_disk) (defBody s__law_disk) (defScope s__law_disk) .none kV19 dc19 pm19 an19 cd19 ct19), sl19⟩)
    (c19 : PySem.W.codeIn K cd19 "_law_disk" = true)
    (k19 : PySem.W.keepIn K (.ref f19) = true)
    (a20 : PySem.W.findIn K (.ref C0) "__init__" = some (some (.ref f20)))
    (i20 : PySem.W.isFn K (.ref f20) = true)
    (l20 : K.lookup f20 = some ⟨oc20, od20, .func (PySem.W.fnOf "__init__" "Disk.__init__" (defArgs s_Disk_init) (defBody s_Disk_init) (defScope s_Disk_init) .none kV20 dc20 pm20 an20 cd20 ct20), sl20⟩)
    (c20 : PySem.W.codeIn K cd20 "Disk.__init__" = true)
    (k20 : PySem.W.keepIn K (.ref f20) = true)
    (a21 : PySem.W.nsIn K mainGlobals "_law_bag" = some (some (.ref f21)))
    (l21 : K.lookup f21 = some ⟨oc21, od21, .func (PySem.W.fnOf "_law_bag" "_law_bag" (defArgs s__law_bag) (defBody s__law_bag) (defScope s__law_bag) .none kV21 dc21 pm21 an21 cd21 ct21), sl21⟩)
    (c21 : PySem.W.codeIn K cd21 "_law_bag" = true)
    (k21 : PySem.W.keepIn K (.ref f21) = true)
    (a22 : PySem.W.nsIn K mainGlobals "law" = some (some (.ref f22)))
    (l22 : K.lookup f22 = some ⟨oc22, od22, .func (PySem.W.fnOf "law" "law" (defArgs s_law) (defBody s_law) (defScope s_law) .none kV22 dc22 pm22 an22 cd22 ct22), sl22⟩)
    (c22 : PySem.W.codeIn K cd22 "law" = true)
    (k22 : PySem.W.keepIn K (.ref f22) = true)
    (n_Disk__fallen : PySem.W.findIn K (.ref C0) "_fallen" = some none)
    (n_Disk__left : PySem.W.findIn K (.ref C0) "_left" = some none)
    (n_Disk__sure : PySem.W.findIn K (.ref C0) "_sure" = some none)
    (n_Disk__there : PySem.W.findIn K (.ref C0) "_there" = some none)
    (z_all : PySem.W.nsIn K mainGlobals "all" = some none)
    (z_bool : PySem.W.nsIn K mainGlobals "bool" = some none)
    (z_dict : PySem.W.nsIn K mainGlobals "dict" = some none)
    (z_int : PySem.W.nsIn K mainGlobals "int" = some none)
    (z_isinstance : PySem.W.nsIn K mainGlobals "isinstance" = some none)
    (z_len : PySem.W.nsIn K mainGlobals "len" = some none)
    (z_list : PySem.W.nsIn K mainGlobals "list" = some none)
    (z_max : PySem.W.nsIn K mainGlobals "max" = some none)
    (z_min : PySem.W.nsIn K mainGlobals "min" = some none)
    (z_range : PySem.W.nsIn K mainGlobals "range" = some none)
    (z_set : PySem.W.nsIn K mainGlobals "set" = some none)
    (z_sorted : PySem.W.nsIn K mainGlobals "sorted" = some none)
    (z_str : PySem.W.nsIn K mainGlobals "str" = some none)
    (z_tuple : PySem.W.nsIn K mainGlobals "tuple" = some none)
    (g_Fallen : PySem.W.nsIn K mainGlobals "Fallen" = some (some (.ref C2)))
    (q_Fallen : PySem.W.excIn K C2 [.type "ValueError", .type "Exception", .type "BaseException", .type "object"] "ValueError.__new__" = true)
    (kp_Fallen : PySem.W.keepIn K (.ref C2) = true)
    (b_Fallen : PySem.W.subIn K (.ref C2) (.type "BaseException") = some true)
    (t_Fallen : PySem.W.typeIn K (.ref C2) = some (.type "type"))
    (ic_Fallen : PySem.W.isClsIn K C2 = true)
    (s_Fallen_Fallen : PySem.W.subIn K (.ref C2) (.ref C2) = some true) :
    ∃ fd : FuncData, (∀ (s : Shared) (v : Value), BindsTo s fd ⟨[v], []⟩ [("script", v)]) ∧ ∀ base : Heap, K.In base → base.Ns mainGlobals mg → FnOk l.prog w K mg base (L2.CX l.prog w) 5 fa fd ["script"] (spLaw K) := by
  have e := hfa.symm.trans (PySem.W.mg_of X G a22)
  cases e
  have cls_Disk : Cls K C0 := ⟨pg_Disk, hd_Disk, po_Disk, sa_Disk⟩
  have T : Tx K mg (caOf C0 C2) := {
    f__law_is_same := ⟨_, _, PySem.W.mg_of X G a0, k0, (fun_mk (st := s__law_is_same) l0 c0 k0)⟩
    f_Disk_read := ⟨_, _, cls_Disk, ⟨a1, i1, k1⟩, (fun_mk (st := s_Disk_read) l1 c1 k1)⟩
    f_Disk_numbers := ⟨_, _, cls_Disk, ⟨a2, i2, k2⟩, (fun_mk (st := s_Disk_numbers) l2 c2 k2)⟩
    f_Disk_is_fallen := ⟨_, _, cls_Disk, ⟨a3, i3, k3⟩, (fun_mk (st := s_Disk_is_fallen) l3 c3 k3)⟩
    f__law_is_right := ⟨_, _, PySem.W.mg_of X G a4, k4, (fun_mk (st := s__law_is_right) l4 c4 k4)⟩
    f_torn := ⟨_, _, PySem.W.mg_of X G a5, k5, (fun_mk (st := s_torn) l5 c5 k5)⟩
    f_choice := ⟨_, _, PySem.W.mg_of X G a6, k6, (fun_mk (st := s_choice) l6 c6 k6)⟩
    f_Disk_rise := ⟨_, _, cls_Disk, ⟨a7, i7, k7⟩, (fun_mk (st := s_Disk_rise) l7 c7 k7)⟩
    f__law_torn := ⟨_, _, PySem.W.mg_of X G a8, k8, (fun_mk (st := s__law_torn) l8 c8 k8)⟩
    f__law_rise := ⟨_, _, PySem.W.mg_of X G a9, k9, (fun_mk (st := s__law_rise) l9 c9 k9)⟩
    f__law_draw := ⟨_, _, PySem.W.mg_of X G a10, k10, (fun_mk (st := s__law_draw) l10 c10 k10)⟩
    f_Disk_arm := ⟨_, _, cls_Disk, ⟨a11, i11, k11⟩, (fun_mk (st := s_Disk_arm) l11 c11 k11)⟩
    f_Disk__falls := ⟨_, _, cls_Disk, ⟨a12, i12, k12⟩, (fun_mk (st := s_Disk__falls) l12 c12 k12)⟩
    f_Disk_append := ⟨_, _, cls_Disk, ⟨a13, i13, k13⟩, (fun_mk (st := s_Disk_append) l13 c13 k13)⟩
    f_Disk_drop := ⟨_, _, cls_Disk, ⟨a14, i14, k14⟩, (fun_mk (st := s_Disk_drop) l14 c14 k14)⟩
    f_Disk_flush := ⟨_, _, cls_Disk, ⟨a15, i15, k15⟩, (fun_mk (st := s_Disk_flush) l15 c15 k15)⟩
    f__law_told_deed := ⟨_, _, PySem.W.mg_of X G a16, k16, (fun_mk (st := s__law_told_deed) l16 c16 k16)⟩
    f__law_deed := ⟨_, _, PySem.W.mg_of X G a17, k17, (fun_mk (st := s__law_deed) l17 c17 k17)⟩
    f__law_turn := ⟨_, _, PySem.W.mg_of X G a18, k18, (fun_mk (st := s__law_turn) l18 c18 k18)⟩
    f__law_disk := ⟨_, _, PySem.W.mg_of X G a19, k19, (fun_mk (st := s__law_disk) l19 c19 k19)⟩
    f_Disk_init := ⟨_, _, PySem.W.mg_of X G a_Disk, ⟨mk_Disk, a20, i20, kc_Disk⟩, (fun_mk (st := s_Disk_init) l20 c20 k20)⟩
    f__law_bag := ⟨_, _, PySem.W.mg_of X G a21, k21, (fun_mk (st := s__law_bag) l21 c21 k21)⟩
    f_law := ⟨_, _, PySem.W.mg_of X G a22, k22, (fun_mk (st := s_law) l22 c22 k22)⟩
    fl__fallen := List.forall_mem_cons.mpr ⟨⟨cls_Disk, n_Disk__fallen⟩, fun _ z => absurd z (List.not_mem_nil)⟩
    fl__left := List.forall_mem_cons.mpr ⟨⟨cls_Disk, n_Disk__left⟩, fun _ z => absurd z (List.not_mem_nil)⟩
    fl__sure := List.forall_mem_cons.mpr ⟨⟨cls_Disk, n_Disk__sure⟩, fun _ z => absurd z (List.not_mem_nil)⟩
    fl__there := List.forall_mem_cons.mpr ⟨⟨cls_Disk, n_Disk__there⟩, fun _ z => absurd z (List.not_mem_nil)⟩
    z_all := PySem.W.mg_none_of X G z_all
    z_bool := PySem.W.mg_none_of X G z_bool
    z_dict := PySem.W.mg_none_of X G z_dict
    z_int := PySem.W.mg_none_of X G z_int
    z_isinstance := PySem.W.mg_none_of X G z_isinstance
    z_len := PySem.W.mg_none_of X G z_len
    z_list := PySem.W.mg_none_of X G z_list
    z_max := PySem.W.mg_none_of X G z_max
    z_min := PySem.W.mg_none_of X G z_min
    z_range := PySem.W.mg_none_of X G z_range
    z_set := PySem.W.mg_none_of X G z_set
    z_sorted := PySem.W.mg_none_of X G z_sorted
    z_str := PySem.W.mg_none_of X G z_str
    z_tuple := PySem.W.mg_none_of X G z_tuple
    e_Fallen := ⟨PySem.W.mg_of X G g_Fallen, q_Fallen, kp_Fallen, b_Fallen, t_Fallen⟩
    x_Fallen_Fallen := exm_of b_Fallen ic_Fallen t_Fallen s_Fallen_Fallen
  }
  exact ⟨PySem.W.fnOf "law" "law" (defArgs s_law) (defBody s_law) (defScope s_law) .none kV22 dc22 pm22 an22 cd22 ct22, fun s v => .of_eq rfl, fun base _ _ => law_of (fn_law T (fun_mk (st := s_law) l22 c22 k22)) hm⟩
end PMl
open PySem PySem.W PyProof.Rows
set_option maxRecDepth 100000 in
set_option maxHeartbeats 0 in
theorem PySem.Challenge.cw_latemoves_k25_disks_by_the_rules_holds : PySem.Challenge.rw_latemoves_k25_disks_by_the_rules.Holds := by
  w_on; o_law; k_head; (case hw => w_witness2)
  k_fill
  refine PM.walk (l := PySem.Challenge.rw_latemoves_k25_disks_by_the_rules) 5 ⟨rfl, by decide, by decide⟩ rfl rfl (fun w h Y => PySem.W.kIn_of Y) ?F
  case F =>
    intro w mg fa h KX G hmg
    refine' PMl.all_mk KX G hmg PMl.law_holds ?a_Disk ?pg_Disk ?hd_Disk ?po_Disk ?sa_Disk ?mk_Disk ?kc_Disk ?a0 ?l0 ?c0 ?k0 ?a1 ?i1 ?l1 ?c1 ?k1 ?a2 ?i2 ?l2 ?c2 ?k2 ?a3 ?i3 ?l3 ?c3 ?k3 ?a4 ?l4 ?c4 ?k4 ?a5 ?l5 ?c5 ?k5 ?a6 ?l6 ?c6 ?k6 ?a7 ?i7 ?l7 ?c7 ?k7 ?a8 ?l8 ?c8 ?k8 ?a9 ?l9 ?c9 ?k9 ?a10 ?l10 ?c10 ?k10 ?a11 ?i11 ?l11 ?c11 ?k11 ?a12 ?i12 ?l12 ?c12 ?k12 ?a13 ?i13 ?l13 ?c13 ?k13 ?a14 ?i14 ?l14 ?c14 ?k14 ?a15 ?i15 ?l15 ?c15 ?k15 ?a16 ?l16 ?c16 ?k16 ?a17 ?l17 ?c17 ?k17 ?a18 ?l18 ?c18 ?k18 ?a19 ?l19 ?c19 ?k19 ?a20 ?i20 ?l20 ?c20 ?k20 ?a21 ?l21 ?c21 ?k21 ?a22 ?l22 ?c22 ?k22 ?n_Disk__fallen ?n_Disk__left ?n_Disk__sure ?n_Disk__there ?z_all ?z_bool ?z_dict ?z_int ?z_isinstance ?z_len ?z_list ?z_max ?z_min ?z_range ?z_set ?z_sorted ?z_str ?z_tuple ?g_Fallen ?q_Fallen ?kp_Fallen ?b_Fallen ?t_Fallen ?ic_Fallen ?s_Fallen_Fallen
    (case a_Disk => k_is)
    (case pg_Disk => k_is)
    (case hd_Disk => k_is)
    (case po_Disk => k_is)
    (case sa_Disk => k_is)
    (case mk_Disk => k_is)
    (case kc_Disk => k_is)
    (case a0 => k_is)
    (case l0 => k_is)
    (case c0 => k_is)
    (case k0 => k_is)
    (case a1 => k_is)
    (case i1 => k_is)
    (case l1 => k_is)
    (case c1 => k_is)
    (case k1 => k_is)
    (case a2 => k_is)
    (case i2 => k_is)
    (case l2 => k_is)
    (case c2 => k_is)
    (case k2 => k_is)
    (case a3 => k_is)
    (case i3 => k_is)
    (case l3 => k_is)
    (case c3 => k_is)
    (case k3 => k_is)
    (case a4 => k_is)
    (case l4 => k_is)
    (case c4 => k_is)
    (case k4 => k_is)
    (case a5 => k_is)
    (case l5 => k_is)
    (case c5 => k_is)
    (case k5 => k_is)
    (case a6 => k_is)
    (case l6 => k_is)
    (case c6 => k_is)
    (case k6 => k_is)
    (case a7 => k_is)
    (case i7 => k_is)
    (case l7 => k_is)
    (case c7 => k_is)
    (case k7 => k_is)
    (case a8 => k_is)
    (case l8 => k_is)
    (case c8 => k_is)
    (case k8 => k_is)
    (case a9 => k_is)
    (case l9 => k_is)
    (case c9 => k_is)
    (case k9 => k_is)
    (case a10 => k_is)
    (case l10 => k_is)
    (case c10 => k_is)
    (case k10 => k_is)
    (case a11 => k_is)
    (case i11 => k_is)
    (case l11 => k_is)
    (case c11 => k_is)
    (case k11 => k_is)
    (case a12 => k_is)
    (case i12 => k_is)
    (case l12 => k_is)
    (case c12 => k_is)
    (case k12 => k_is)
    (case a13 => k_is)
    (case i13 => k_is)
    (case l13 => k_is)
    (case c13 => k_is)
    (case k13 => k_is)
    (case a14 => k_is)
    (case i14 => k_is)
    (case l14 => k_is)
    (case c14 => k_is)
    (case k14 => k_is)
    (case a15 => k_is)
    (case i15 => k_is)
    (case l15 => k_is)
    (case c15 => k_is)
    (case k15 => k_is)
    (case a16 => k_is)
    (case l16 => k_is)
    (case c16 => k_is)
    (case k16 => k_is)
    (case a17 => k_is)
    (case l17 => k_is)
    (case c17 => k_is)
    (case k17 => k_is)
    (case a18 => k_is)
    (case l18 => k_is)
    (case c18 => k_is)
    (case k18 => k_is)
    (case a19 => k_is)
    (case l19 => k_is)
    (case c19 => k_is)
    (case k19 => k_is)
    (case a20 => k_is)
    (case i20 => k_is)
    (case l20 => k_is)
    (case c20 => k_is)
    (case k20 => k_is)
    (case a21 => k_is)
    (case l21 => k_is)
    (case c21 => k_is)
    (case k21 => k_is)
    (case a22 => k_is)
    (case l22 => k_is)
    (case c22 => k_is)
    (case k22 => k_is)
    (case n_Disk__fallen => k_is)
    (case n_Disk__left => k_is)
    (case n_Disk__sure => k_is)
    (case n_Disk__there => k_is)
    (case z_all => k_is)
    (case z_bool => k_is)
    (case z_dict => k_is)
    (case z_int => k_is)
    (case z_isinstance => k_is)
    (case z_len => k_is)
    (case z_list => k_is)
    (case z_max => k_is)
    (case z_min => k_is)
    (case z_range => k_is)
    (case z_set => k_is)
    (case z_sorted => k_is)
    (case z_str => k_is)
    (case z_tuple => k_is)
    (case g_Fallen => k_is)
    (case q_Fallen => k_exc)
    (case kp_Fallen => k_is)
    (case b_Fallen => k_is)
    (case t_Fallen => k_is)
    (case ic_Fallen => k_is)
    (case s_Fallen_Fallen => first | rfl | k_is)
#print axioms PySem.Challenge.cw_latemoves_k25_disks_by_the_rules_holds

